import PyProof.Rows.All
import Wide.All
import OpenK.AllK
import Wide.FinOn
import HandS.ForMost
import HandS.ForExc
import HandS.Wide
import HandS.IsInst
import HandS.TupAny
import HandS.TupMul
import HandS.Style
import PyProof.StrOps2
import KE.DataEq
import HandS.NoneIn
import PyProof.ListStr
import PyProof.TupleOfStr
import HandS.Replace
import HandS.ExcIs
import HandS.SortInts
import HandS.WideMore
import KE.GoesNew
import KE.GoesEnumKw
import KE.DataCmp
import HandS.StrMore
import HandS.Deep
import PyProof.StrLawsLast
import HandS.RevRange
import PyProof.Rows.SetFrom
import PyProof.WalksMore
import PyProof.WalkInts
import PyProof.SeqI3
import HandS.SetFor
import HandS.Strs
import PyProof.WalksS
import PyProof.Walks
import PySem.Challenge.RW_nearreach_k12_whole_courses_and_spreads
set_option Elab.async false
set_option linter.all false
set_option maxRecDepth 100000
/-! The core: values as trees, mutable cells, what a reading does as a function. -/
namespace NR
open PySem PySem.Spec PyProof.Rows L2

abbrev DKey := Sum Int (List Nat)
/-- a value: a tree, or the number of a mutable cell -/
inductive D where
  | non | bl (b : Bool) | int (i : Int) | str (s : List Nat) | tup (l : List D) | ref (n : Nat) | exc (a : Nat)
  /-- a list, a dict that is never written any more -/
  | fl (l : List D) | fd (ks : List (Sum Int (List Nat))) (l : List D)
/-- a mutable cell -/
inductive Cell where
  | lst (xs : List D)
  | frz (xs : List D)
  | dk (kvs : List (DKey × D))
  | dt (kvs : List (List DKey × D))
  | ins (c : Str) (fs : List (Str × D))
abbrev IH := List Cell
abbrev EV := List (Option D)
/-- the written part, the classes by their names -/
structure Cf where
  K : PySem.W.Frag
  C : Str → Addr

def strV (s : List Nat) : Str := ⟨s.toArray⟩
def keyV : DKey → Key
  | .inl i => .inl i
  | .inr s => .inr (strV s)
theorem strV_inj {a b : List Nat} (h : strV a = strV b) : a = b := by
  have := congrArg (fun s : Str => s.cps.toList) h
  simpa [strV] using this
theorem strV_toList (s : Str) : strV s.cps.toList = s := by
  cases s; simp [strV]
theorem strV_length (s : List Nat) : (strV s).length = s.length := by
  show (strV s).cps.size = _
  simp [strV]

/-- a list that is never written -/
def FrzL (K : PySem.W.Frag) (H : Hp) (a : Addr) (xs : List V) : Prop :=
  (∃ o, H a = some (.frz o (.lst xs))) ∨
    ∃ (o : Obj) (its : Array Value) (n : Nat), K.lookup a = some o ∧ o.cls = .type "list" ∧ o.dict = none ∧ o.data = .seq its n ∧ its.size ≤ sizeLine ∧ Vals xs its.toList
/-- a list that is locked -/
def FrzM (H : Hp) (a : Addr) (xs : List V) : Prop := ∃ o, H a = some (.frz o (.lst xs))
/-- a dict that is never written -/
def FrzD (H : Hp) (a : Addr) (ws : List (Key × V)) : Prop := ∃ o, H a = some (.frz o (.dK ws))

/-- a tuple that stands in the heap -/
def TpT (H : Hp) (a : Addr) (vs : List V) : Prop := H a = some (.tup vs)

mutual
def Den (G : Cf) (et : List Addr) (H : Hp) : D → V → Prop
  | .non, v => v = .non
  | .bl b, v => v = .bl b
  | .int i, v => v = .int i
  | .str s, v => v = .str (strV s)
  | .tup l, v => ∃ a vs, v = .ref a ∧ TpT H a vs ∧ DenL G et H l vs
  | .ref n, v => ∃ a, et[n]? = some a ∧ v = .ref a
  | .exc a, v => v = .ref a
  | .fl l, v => ∃ a vs, v = .ref a ∧ FrzM H a vs ∧ DenL G et H l vs
  | .fd ks l, v => ∃ a ws, v = .ref a ∧ FrzD H a ws ∧ ws.map (·.1) = ks.map keyV ∧ DenL G et H l (ws.map (·.2))
def DenL (G : Cf) (et : List Addr) (H : Hp) : List D → List V → Prop
  | [], vs => vs = []
  | d :: ds, vs => ∃ v ws, vs = v :: ws ∧ Den G et H d v ∧ DenL G et H ds ws
end

mutual
def D.lo (n : Nat) : D → Bool
  | .tup l => D.loL n l
  | .fl l => D.loL n l
  | .fd _ l => D.loL n l
  | .ref m => decide (m < n)
  | _ => true
def D.loL (n : Nat) : List D → Bool
  | [] => true
  | d :: ds => D.lo n d && D.loL n ds
end

/-- what never changes stays -/
def Ext (H H' : Hp) : Prop := ∀ a o, H a = some o → ¬ Mut (some o) → H' a = some o
theorem Ext.refl (H : Hp) : Ext H H := fun _ _ h _ => h
theorem Ext.trans {H H1 H2 : Hp} (a : Ext H H1) (b : Ext H1 H2) : Ext H H2 := fun x o h m => b x o (a x o h m) m
theorem Ext.new {H : Hp} {p : Addr} {o : HO} (h : H p = none) : Ext H (upd H p o) := fun a u e _ => by
  rw [upd_ne (ne_of_none e h)]
  exact e
theorem Ext.mut {H : Hp} {p : Addr} {o u : HO} (h : H p = some u) (m : Mut (some u)) : Ext H (upd H p o) := fun a w e nm => by
  have : a ≠ p := fun z => by
    subst z
    rw [h] at e
    cases e
    exact nm m
  rw [upd_ne this]
  exact e
theorem Ext.sqT {K : PySem.W.Frag} {H H' : Hp} {a : Addr} {vs : List V} (e : Ext H H') (h : SqT K H a vs) : SqT K H' a vs := by
  rcases h with (h | ⟨o, h⟩) | h
  · exact .inl (.inl (e _ _ h (fun z => z)))
  · exact .inl (.inr ⟨o, e _ _ h (fun z => z)⟩)
  · exact .inr h

theorem TpT.ext {H H' : Hp} {a : Addr} {vs : List V} (e : Ext H H') (h : TpT H a vs) : TpT H' a vs := e _ _ h (fun z => z)
theorem TpT.sq {K : PySem.W.Frag} {H : Hp} {a : Addr} {vs : List V} (h : TpT H a vs) : SqT K H a vs := .inl (.inl h)
instance {K : PySem.W.Frag} {H : Hp} {a : Addr} {vs : List V} : Coe (TpT H a vs) (SqT K H a vs) := ⟨TpT.sq⟩
theorem FrzL.sq {K : PySem.W.Frag} {H : Hp} {a : Addr} {xs : List V} (h : FrzL K H a xs) : SqL K H a xs := by
  rcases h with ⟨o, h⟩ | h
  · exact .inl (.inr ⟨o, h⟩)
  · exact .inr h
theorem FrzL.ext {K : PySem.W.Frag} {H H' : Hp} {a : Addr} {xs : List V} (e : Ext H H') (h : FrzL K H a xs) : FrzL K H' a xs := by
  rcases h with ⟨o, h⟩ | h
  · exact .inl ⟨o, e _ _ h (fun z => z)⟩
  · exact .inr h

theorem FrzM.ext {H H' : Hp} {a : Addr} {ws : List V} (e : Ext H H') (h : FrzM H a ws) : FrzM H' a ws := by
  obtain ⟨o, h⟩ := h
  exact ⟨o, e _ _ h (fun z => z)⟩
theorem FrzM.rd {H : Hp} {a : Addr} {ws : List V} (h : FrzM H a ws) : Rd H a (.lst ws) := .inr h
theorem FrzM.sq {K : PySem.W.Frag} {H : Hp} {a : Addr} {ws : List V} (h : FrzM H a ws) : SqL K H a ws := .inl (.inr h)
theorem FrzM.frz {K : PySem.W.Frag} {H : Hp} {a : Addr} {ws : List V} (h : FrzM H a ws) : FrzL K H a ws := .inl h
theorem FrzD.ext {H H' : Hp} {a : Addr} {ws : List (Key × V)} (e : Ext H H') (h : FrzD H a ws) : FrzD H' a ws := by
  obtain ⟨o, h⟩ := h
  exact ⟨o, e _ _ h (fun z => z)⟩

mutual
theorem Den.mono {G : Cf} {et et' : List Addr} {H H' : Hp} (p : et <+: et') (e : Ext H H') : ∀ {d : D} {v : V}, Den G et H d v → Den G et' H' d v
  | .non, _, h => h
  | .bl _, _, h => h
  | .int _, _, h => h
  | .str _, _, h => h
  | .exc _, _, h => h
  | .tup l, _, h => by
    simp only [Den] at h ⊢
    obtain ⟨a, vs, e1, h1, h2⟩ := h
    exact ⟨a, vs, e1, h1.ext e, DenL.mono p e h2⟩
  | .fl l, _, h => by
    simp only [Den] at h ⊢
    obtain ⟨a, vs, e1, h1, h2⟩ := h
    exact ⟨a, vs, e1, h1.ext e, DenL.mono p e h2⟩
  | .fd ks l, _, h => by
    simp only [Den] at h ⊢
    obtain ⟨a, vs, e1, h1, h2, h3⟩ := h
    exact ⟨a, vs, e1, h1.ext e, h2, DenL.mono p e h3⟩
  | .ref n, _, h => by
    simp only [Den] at h ⊢
    obtain ⟨a, h1, h2⟩ := h
    obtain ⟨t, rfl⟩ := p
    refine ⟨a, ?_, h2⟩
    rw [List.getElem?_append_left]
    · exact h1
    · exact (List.getElem?_eq_some_iff.mp h1).1
theorem DenL.mono {G : Cf} {et et' : List Addr} {H H' : Hp} (p : et <+: et') (e : Ext H H') : ∀ {ds : List D} {vs : List V}, DenL G et H ds vs → DenL G et' H' ds vs
  | [], _, h => h
  | d :: ds, _, h => by
    simp only [DenL] at h ⊢
    obtain ⟨v, ws, e1, h1, h2⟩ := h
    exact ⟨v, ws, e1, Den.mono p e h1, DenL.mono p e h2⟩
end
mutual
theorem Den.back {G : Cf} {et et' : List Addr} {H : Hp} (p : et <+: et') : ∀ {d : D} {v : V}, D.lo et.length d = true → Den G et' H d v → Den G et H d v
  | .non, _, _, h => h
  | .bl _, _, _, h => h
  | .int _, _, _, h => h
  | .str _, _, _, h => h
  | .exc _, _, _, h => h
  | .tup l, _, b, h => by
    simp only [Den] at h ⊢
    obtain ⟨a, vs, e1, h1, h2⟩ := h
    exact ⟨a, vs, e1, h1, DenL.back p (by simpa [D.lo] using b) h2⟩
  | .fl l, _, b, h => by
    simp only [Den] at h ⊢
    obtain ⟨a, vs, e1, h1, h2⟩ := h
    exact ⟨a, vs, e1, h1, DenL.back p (by simpa [D.lo] using b) h2⟩
  | .fd ks l, _, b, h => by
    simp only [Den] at h ⊢
    obtain ⟨a, vs, e1, h1, h2, h3⟩ := h
    exact ⟨a, vs, e1, h1, h2, DenL.back p (by simpa [D.lo] using b) h3⟩
  | .ref n, _, b, h => by
    simp only [Den] at h ⊢
    obtain ⟨a, h1, h2⟩ := h
    obtain ⟨t, rfl⟩ := p
    have hn : n < et.length := by simpa [D.lo] using b
    refine ⟨a, ?_, h2⟩
    rw [List.getElem?_append_left hn] at h1
    exact h1
theorem DenL.back {G : Cf} {et et' : List Addr} {H : Hp} (p : et <+: et') : ∀ {ds : List D} {vs : List V}, D.loL et.length ds = true → DenL G et' H ds vs → DenL G et H ds vs
  | [], _, _, h => h
  | d :: ds, _, b, h => by
    simp only [DenL] at h ⊢
    obtain ⟨v, ws, e1, h1, h2⟩ := h
    simp only [D.loL, Bool.and_eq_true] at b
    exact ⟨v, ws, e1, Den.back p b.1 h1, DenL.back p b.2 h2⟩
end
mutual
/-- what is denoted refers only to cells that are there -/
theorem Den.lo {G : Cf} {et : List Addr} {H : Hp} : ∀ {d : D} {v : V}, Den G et H d v → D.lo et.length d = true
  | .non, _, _ => rfl
  | .bl _, _, _ => rfl
  | .int _, _, _ => rfl
  | .str _, _, _ => rfl
  | .exc _, _, _ => rfl
  | .tup l, _, h => by
    simp only [Den] at h
    obtain ⟨a, vs, e1, h1, h2⟩ := h
    simpa [D.lo] using DenL.lo h2
  | .fl l, _, h => by
    simp only [Den] at h
    obtain ⟨a, vs, e1, h1, h2⟩ := h
    simpa [D.lo] using DenL.lo h2
  | .fd ks l, _, h => by
    simp only [Den] at h
    obtain ⟨a, vs, e1, h1, h2, h3⟩ := h
    simpa [D.lo] using DenL.lo h3
  | .ref n, _, h => by
    simp only [Den] at h
    obtain ⟨a, h1, h2⟩ := h
    simpa [D.lo] using (List.getElem?_eq_some_iff.mp h1).1
theorem DenL.lo {G : Cf} {et : List Addr} {H : Hp} : ∀ {ds : List D} {vs : List V}, DenL G et H ds vs → D.loL et.length ds = true
  | [], _, _ => by simp [D.loL]
  | d :: ds, _, h => by
    simp only [DenL] at h
    obtain ⟨v, ws, e1, h1, h2⟩ := h
    simp [D.loL, Den.lo h1, DenL.lo h2]
end

/-- the pairs of a dict, of an instance -/
def DenK {κ κ' : Type} (f : κ → κ') (G : Cf) (et : List Addr) (H : Hp) (kvs : List (κ × D)) (ws : List (κ' × V)) : Prop :=
  ws.map (·.1) = kvs.map (fun p => f p.1) ∧ DenL G et H (kvs.map (·.2)) (ws.map (·.2))
theorem DenK.mono {κ κ' : Type} {f : κ → κ'} {G : Cf} {et et' : List Addr} {H H' : Hp} (p : et <+: et') (e : Ext H H') {kvs : List (κ × D)} {ws : List (κ' × V)} (h : DenK f G et H kvs ws) : DenK f G et' H' kvs ws := ⟨h.1, h.2.mono p e⟩

def CellOk (G : Cf) (et : List Addr) (H : Hp) (a : Addr) : Cell → Prop
  | .lst xs => ∃ vs, H a = some (.lst vs) ∧ DenL G et H xs vs
  | .frz xs => ∃ vs, FrzL G.K H a vs ∧ DenL G et H xs vs
  | .dk kvs => ∃ ws, H a = some (.dK ws) ∧ DenK keyV G et H kvs ws
  | .dt kvs => ∃ ws, H a = some (.dT ws) ∧ DenK (List.map keyV) G et H kvs ws
  | .ins c fs => ∃ dx ws, H a = some (.ins (G.C c) dx ws) ∧ DenK id G et H fs ws
def Cell.lo (n : Nat) : Cell → Bool
  | .lst xs => D.loL n xs
  | .frz xs => D.loL n xs
  | .dk kvs => D.loL n (kvs.map (·.2))
  | .dt kvs => D.loL n (kvs.map (·.2))
  | .ins _ fs => D.loL n (fs.map (·.2))
def Cell.isFrz : Cell → Bool
  | .frz _ => true
  | _ => false
structure HRel (G : Cf) (et : List Addr) (h : IH) (H : Hp) : Prop where
  len : et.length = h.length
  nd : ∀ (n m : Nat) (c c' : Cell) (a : Addr), h[n]? = some c → h[m]? = some c' → et[n]? = some a → et[m]? = some a → c.isFrz = false → c'.isFrz = false → n = m
  cell : ∀ (n : Nat) (c : Cell) (a : Addr), h[n]? = some c → et[n]? = some a → CellOk G et H a c

theorem CellOk.mono {G : Cf} {et et' : List Addr} {H H' : Hp} {a : Addr} (p : et <+: et') (e : Ext H H') (he : ∀ o, H a = some o → H' a = some o) {c : Cell} (h : CellOk G et H a c) : CellOk G et' H' a c := by
  cases c with
  | lst xs => obtain ⟨vs, h1, h2⟩ := h; exact ⟨vs, he _ h1, h2.mono p e⟩
  | frz xs => obtain ⟨vs, h1, h2⟩ := h; exact ⟨vs, h1.ext e, h2.mono p e⟩
  | dk kvs => obtain ⟨vs, h1, h2⟩ := h; exact ⟨vs, he _ h1, h2.mono p e⟩
  | dt kvs => obtain ⟨vs, h1, h2⟩ := h; exact ⟨vs, he _ h1, h2.mono p e⟩
  | ins c fs => obtain ⟨dx, vs, h1, h2⟩ := h; exact ⟨dx, vs, he _ h1, h2.mono p e⟩
theorem CellOk.back {G : Cf} {et et' : List Addr} {H : Hp} {a : Addr} (p : et <+: et') {c : Cell} (b : Cell.lo et.length c = true) (h : CellOk G et' H a c) : CellOk G et H a c := by
  cases c with
  | lst xs => obtain ⟨vs, h1, h2⟩ := h; exact ⟨vs, h1, h2.back p b⟩
  | frz xs => obtain ⟨vs, h1, h2⟩ := h; exact ⟨vs, h1, h2.back p b⟩
  | dk kvs => obtain ⟨vs, h1, h2⟩ := h; exact ⟨vs, h1, h2.1, h2.2.back p b⟩
  | dt kvs => obtain ⟨vs, h1, h2⟩ := h; exact ⟨vs, h1, h2.1, h2.2.back p b⟩
  | ins c fs => obtain ⟨dx, vs, h1, h2⟩ := h; exact ⟨dx, vs, h1, h2.1, h2.2.back p b⟩
theorem CellOk.lo {G : Cf} {et : List Addr} {H : Hp} {a : Addr} {c : Cell} (h : CellOk G et H a c) : Cell.lo et.length c = true := by
  cases c with
  | lst xs => obtain ⟨vs, h1, h2⟩ := h; exact h2.lo
  | frz xs => obtain ⟨vs, h1, h2⟩ := h; exact h2.lo
  | dk kvs => obtain ⟨vs, h1, h2⟩ := h; exact h2.2.lo
  | dt kvs => obtain ⟨vs, h1, h2⟩ := h; exact h2.2.lo
  | ins c fs => obtain ⟨dx, vs, h1, h2⟩ := h; exact h2.2.lo
/-- a cell stands in the heap, or is read only -/
theorem CellOk.some_or {G : Cf} {et : List Addr} {H : Hp} {a : Addr} {c : Cell} (h : CellOk G et H a c) : (∃ o, H a = some o) ∨ ∃ o, G.K.lookup a = some o := by
  cases c with
  | lst xs => obtain ⟨vs, h1, _⟩ := h; exact .inl ⟨_, h1⟩
  | frz xs =>
    obtain ⟨vs, ⟨o, h1⟩ | ⟨o, _, _, h1, _⟩, _⟩ := h
    · exact .inl ⟨_, h1⟩
    · exact .inr ⟨_, h1⟩
  | dk kvs => obtain ⟨vs, h1, _⟩ := h; exact .inl ⟨_, h1⟩
  | dt kvs => obtain ⟨vs, h1, _⟩ := h; exact .inl ⟨_, h1⟩
  | ins c fs => obtain ⟨dx, vs, h1, _⟩ := h; exact .inl ⟨_, h1⟩

section
variable {G : Cf} {et et' : List Addr} {H H' : Hp} {h h' : IH}
theorem HRel.addr (R : HRel G et h H) {n : Nat} {c : Cell} (e : h[n]? = some c) : ∃ a, et[n]? = some a := by
  have : n < h.length := (List.getElem?_eq_some_iff.mp e).1
  exact ⟨et[n]'(by rw [R.len]; exact this), List.getElem?_eq_getElem _⟩
theorem HRel.cellAt (R : HRel G et h H) {n : Nat} {a : Addr} (e : et[n]? = some a) : ∃ c, h[n]? = some c ∧ CellOk G et H a c := by
  have l : n < h.length := by rw [← R.len]; exact (List.getElem?_eq_some_iff.mp e).1
  exact ⟨h[n], List.getElem?_eq_getElem l, R.cell n _ a (List.getElem?_eq_getElem l) e⟩
theorem CellOk.there {a : Addr} {c : Cell} (f : c.isFrz = false) (x : CellOk G et H a c) : ∃ o, H a = some o := by
  cases c with
  | lst xs => obtain ⟨vs, h1, _⟩ := x; exact ⟨_, h1⟩
  | frz xs => cases f
  | dk kvs => obtain ⟨vs, h1, _⟩ := x; exact ⟨_, h1⟩
  | dt kvs => obtain ⟨vs, h1, _⟩ := x; exact ⟨_, h1⟩
  | ins c fs => obtain ⟨dx, vs, h1, _⟩ := x; exact ⟨_, h1⟩
/-- nothing of the cells is touched -/
theorem HRel.keep (R : HRel G et h H) (e : Ext H H') (k : ∀ (n : Nat) (a : Addr) (o : HO), et[n]? = some a → H a = some o → H' a = some o) : HRel G et h H' :=
  ⟨R.len, R.nd, fun n c a h1 h2 => (R.cell n c a h1 h2).mono List.prefix_rfl e (fun o => k n a o h2)⟩
/-- a new immutable object -/
theorem HRel.new (R : HRel G et h H) {p : Addr} {o : HO} (hp : H p = none) : HRel G et h (upd H p o) :=
  R.keep (Ext.new hp) fun n a u _ e => by rw [upd_ne (ne_of_none e hp)]; exact e
/-- a new cell -/
theorem HRel.push (R : HRel G et h H) {p : Addr} {o : HO} {c : Cell} (hp : H p = none) (hc : CellOk G (et ++ [p]) (upd H p o) p c) : HRel G (et ++ [p]) (h ++ [c]) (upd H p o) := by
  have pf : et <+: et ++ [p] := List.prefix_append _ _
  have old : ∀ {n : Nat} {c' : Cell}, (h ++ [c])[n]? = some c' → (n < h.length ∧ h[n]? = some c') ∨ (n = h.length ∧ c' = c) := fun {n c'} e => by
    by_cases hn : n < h.length
    · rw [List.getElem?_append_left hn] at e
      exact .inl ⟨hn, e⟩
    · rw [List.getElem?_append_right (by omega)] at e
      have : n - h.length = 0 := by
        have := (List.getElem?_eq_some_iff.mp e).1
        simp at this
        omega
      rw [this] at e
      simp at e
      exact .inr ⟨by omega, e.symm⟩
  have oldA : ∀ {n : Nat} {a : Addr}, n < h.length → (et ++ [p])[n]? = some a → et[n]? = some a := fun {n a} hn e => by
    rw [List.getElem?_append_left (by rw [R.len]; exact hn)] at e
    exact e
  have newA : ∀ {a : Addr}, (et ++ [p])[h.length]? = some a → a = p := fun {a} e => by
    rw [List.getElem?_append_right (by rw [R.len]; exact Nat.le_refl _), R.len, Nat.sub_self] at e
    simp at e
    exact e.symm
  refine ⟨by simp [R.len], fun n m c1 c2 a h1 h2 h3 h4 f1 f2 => ?_, fun n c1 a h1 h2 => ?_⟩
  · rcases old h1 with ⟨l1, g1⟩ | ⟨l1, rfl⟩
    · rcases old h2 with ⟨l2, g2⟩ | ⟨l2, rfl⟩
      · exact R.nd n m c1 c2 a g1 g2 (oldA l1 h3) (oldA l2 h4) f1 f2
      · rw [l2] at h4
        have ea := newA h4
        obtain ⟨o', ho⟩ := (R.cell n c1 a g1 (oldA l1 h3)).there f1
        rw [ea, hp] at ho
        cases ho
    · rcases old h2 with ⟨l2, g2⟩ | ⟨l2, rfl⟩
      · rw [l1] at h3
        have ea := newA h3
        obtain ⟨o', ho⟩ := (R.cell m c2 a g2 (oldA l2 h4)).there f2
        rw [ea, hp] at ho
        cases ho
      · rw [l1, l2]
  · rcases old h1 with ⟨l1, g1⟩ | ⟨l1, rfl⟩
    · refine (R.cell n c1 a g1 (oldA l1 h2)).mono pf (Ext.new hp) fun u e => ?_
      rw [upd_ne (ne_of_none e hp)]
      exact e
    · rw [l1] at h2
      rw [newA h2]
      exact hc
/-- a cell is written -/
theorem HRel.set (R : HRel G et h H) {n : Nat} {a : Addr} {o u : HO} {c c' : Cell} (hn : h[n]? = some c) (ha : et[n]? = some a) (f : c.isFrz = false) (ho : H a = some o) (mu : Mut (some o))
    (hc : CellOk G et (upd H a u) a c') : HRel G et (h.set n c') (upd H a u) := by
  have ex : Ext H (upd H a u) := Ext.mut ho mu
  have ln : n < h.length := (List.getElem?_eq_some_iff.mp hn).1
  refine ⟨by simp [R.len], fun i j c1 c2 b h1 h2 h3 h4 f1 f2 => ?_, fun i c1 b h1 h2 => ?_⟩
  · by_cases hi : i = n
    · by_cases hj : j = n
      · rw [hi, hj]
      · rw [List.getElem?_set_ne (Ne.symm hj)] at h2
        rw [hi] at h3
        rw [ha] at h3
        cases h3
        exact hi.trans (R.nd n j c c2 a hn h2 ha h4 f f2)
    · rw [List.getElem?_set_ne (Ne.symm hi)] at h1
      by_cases hj : j = n
      · rw [hj, ha] at h4
        cases h4
        exact (R.nd i n c1 c a h1 hn h3 ha f1 f).trans hj.symm
      · rw [List.getElem?_set_ne (Ne.symm hj)] at h2
        exact R.nd i j c1 c2 b h1 h2 h3 h4 f1 f2
  · by_cases hi : i = n
    · subst hi
      rw [ha] at h2
      cases h2
      rw [List.getElem?_set_self ln] at h1
      cases h1
      exact hc
    · rw [List.getElem?_set_ne (Ne.symm hi)] at h1
      have old := R.cell i c1 b h1 h2
      cases hf : c1.isFrz with
      | false =>
        have nb : b ≠ a := fun z => by
          subst z
          exact hi (R.nd i n c1 c b h1 hn h2 ha hf f)
        exact old.mono List.prefix_rfl ex fun w e => by rw [upd_ne nb]; exact e
      | true =>
        cases c1 with
        | frz xs =>
          obtain ⟨vs, h5, h6⟩ := old
          exact ⟨vs, h5.ext ex, h6.mono List.prefix_rfl ex⟩
        | _ => cases hf
end
end NR

set_option Elab.async false
set_option linter.all false
set_option maxRecDepth 100000
/-! What syntax does, as a function: the judgement, the rules. -/
namespace NR
open PySem PySem.Spec PyProof.Rows L2

abbrev XF := Option (List (Str × D))
/-- an outcome: a value, an exception, nothing is said -/
inductive R (A : Type) where
  | ok (a : A) (h : IH)
  | ex (c : Str) (d : XF) (h : IH)
  | no
def R.bind {A B : Type} (r : R A) (k : A → IH → R B) : R B :=
  match r with
  | .ok a h => k a h
  | .ex c d h => .ex c d h
  | .no => .no
inductive RS where
  | nx (e : EV) (h : IH) | rt (d : D) (h : IH) | bk (e : EV) (h : IH) | ct (e : EV) (h : IH)
  | ex (c : Str) (d : XF) (e : EV) (h : IH) | no
def R.bindS {A : Type} (r : R A) (env : EV) (k : A → IH → RS) : RS :=
  match r with
  | .ok a h => k a h
  | .ex c d h => .ex c d env h
  | .no => .no
abbrev ME := EV → IH → R D
abbrev MT := EV → IH → R Bool
abbrev MA := EV → IH → R (List D)
abbrev MS := EV → IH → RS
abbrev MF := List D → IH → R D

def ExOk (G : Cf) (et : List Addr) (H : Hp) (c : Str) (d : XF) (cls : Value) (dd : Option Addr) : Prop :=
  cls = .ref (G.C c) ∧ match d with
    | none => dd = none
    | some fs => ∃ a ws, dd = some a ∧ H a = some (.xd ws) ∧ DenK id G et H fs ws

def Pst {A : Type} (G : Cf) (et : List Addr) (H : Hp) (r : R A) (F : List Addr → Hp → IH → A → Prop) (W : Value → Option Addr → Hp → Prop) : Prop :=
  match r with
  | .ok a h' => ∀ et' H', et <+: et' → Ext H H' → HRel G et' h' H' → F et' H' h' a
  | .ex c d h' => ∀ et' H' cls dd, et <+: et' → Ext H H' → HRel G et' h' H' → ExOk G et' H' c d cls dd → W cls dd H'
  | .no => False
section
variable {G : Cf} {et et' : List Addr} {H H' : Hp} {h h' : IH} {A B : Type}
theorem Pst.of_bind {r : R A} {k : A → IH → R B} {F : List Addr → Hp → IH → B → Prop} {W : Value → Option Addr → Hp → Prop} (x : Pst G et H (r.bind k) F W) :
    Pst G et H r (fun et1 H1 h1 a => Pst G et1 H1 (k a h1) F W) W := by
  cases r with
  | ok a h1 =>
    intro et1 H1 p e hr
    show Pst G et1 H1 (k a h1) F W
    have y : Pst G et H (k a h1) F W := x
    cases hk : k a h1 with
    | ok b h2 => rw [hk] at y; exact fun et2 H2 p2 e2 hr2 => y et2 H2 (p.trans p2) (e.trans e2) hr2
    | ex c d h2 => rw [hk] at y; exact fun et2 H2 cls dd p2 e2 hr2 => y et2 H2 cls dd (p.trans p2) (e.trans e2) hr2
    | no => rw [hk] at y; exact y
  | ex c d h1 => exact x
  | no => exact x
theorem Pst.imp {r : R A} {F F' : List Addr → Hp → IH → A → Prop} {W : Value → Option Addr → Hp → Prop} (x : Pst G et H r F W)
    (k : ∀ et' H' h' a, et <+: et' → Ext H H' → HRel G et' h' H' → F et' H' h' a → F' et' H' h' a) : Pst G et H r F' W := by
  cases r with
  | ok a h1 => exact fun et1 H1 p e hr => k et1 H1 h1 a p e hr (x et1 H1 p e hr)
  | ex c d h1 => exact x
  | no => exact x
theorem Pst.weak {r : R A} {F : List Addr → Hp → IH → A → Prop} {W : Value → Option Addr → Hp → Prop} (p : et <+: et') (e : Ext H H') (x : Pst G et H r F W) : Pst G et' H' r F W := by
  cases r with
  | ok a h1 => exact fun et1 H1 p1 e1 hr => x et1 H1 (p.trans p1) (e.trans e1) hr
  | ex c d h1 => exact fun et1 H1 cls dd p1 e1 hr => x et1 H1 cls dd (p.trans p1) (e.trans e1) hr
  | no => exact x
end

/-- the slots hold the values -/
def EnvR (G : Cf) (et : List Addr) (H : Hp) (env : EV) (σ : L2.St) : Prop :=
  env.length = σ.length ∧ ∀ (i : Nat) (d : D), env[i]? = some (some d) → ∃ v, σ[i]? = some (some v) ∧ Den G et H d v
section
variable {G : Cf} {et et' : List Addr} {H H' : Hp} {h h' : IH} {A B : Type} {env : EV} {σ : L2.St}
theorem EnvR.mono (p : et <+: et') (e : Ext H H') (x : EnvR G et H env σ) : EnvR G et' H' env σ :=
  ⟨x.1, fun i d q => let ⟨v, a, b⟩ := x.2 i d q; ⟨v, a, b.mono p e⟩⟩
theorem EnvR.set (x : EnvR G et H env σ) (i : Nat) {d : D} {v : V} (r : Den G et H d v) : EnvR G et H (env.set i (some d)) (σ.set i (some v)) := by
  refine ⟨by simp [x.1], fun j d' q => ?_⟩
  by_cases hj : j = i
  · subst hj
    by_cases hl : j < env.length
    · rw [List.getElem?_set_self hl] at q
      cases q
      exact ⟨v, by rw [List.getElem?_set_self (by rw [← x.1]; exact hl)], r⟩
    · rw [List.set_eq_of_length_le (by omega)] at q
      have := (List.getElem?_eq_some_iff.mp q).1
      exact absurd this hl
  · rw [List.getElem?_set_ne (Ne.symm hj)] at q
    obtain ⟨w, a, b⟩ := x.2 j d' q
    exact ⟨w, by rw [List.getElem?_set_ne (Ne.symm hj)]; exact a, b⟩
end

def tE (G : Cf) (W : WX) (m : ME) : TE := fun σ H Q => ∃ et env h, EnvR G et H env σ ∧ HRel G et h H ∧
  Pst G et H (m env h) (fun et' H' _ d => ∀ v, Den G et' H' d v → Q v H') (fun c d H' => W c d σ H')
def tT (G : Cf) (W : WX) (m : MT) : TT := fun σ H Q => ∃ et env h, EnvR G et H env σ ∧ HRel G et h H ∧
  Pst G et H (m env h) (fun _ H' _ b => Q b H') (fun c d H' => W c d σ H')
def tA (G : Cf) (W : WX) (m : MA) : TA := fun σ H Q => ∃ et env h, EnvR G et H env σ ∧ HRel G et h H ∧
  Pst G et H (m env h) (fun et' H' _ ds => ∀ vs, DenL G et' H' ds vs → Q vs H') (fun c d H' => W c d σ H')
def PstS (G : Cf) (et : List Addr) (H : Hp) (r : RS) (D : Ends) (W : WX) : Prop :=
  match r with
  | .nx env' h' => ∀ et' H' σ', et <+: et' → Ext H H' → HRel G et' h' H' → EnvR G et' H' env' σ' → D.nx σ' H'
  | .bk env' h' => ∀ et' H' σ', et <+: et' → Ext H H' → HRel G et' h' H' → EnvR G et' H' env' σ' → D.bk σ' H'
  | .ct env' h' => ∀ et' H' σ', et <+: et' → Ext H H' → HRel G et' h' H' → EnvR G et' H' env' σ' → D.ct σ' H'
  | .rt d h' => ∀ et' H' v, et <+: et' → Ext H H' → HRel G et' h' H' → Den G et' H' d v → D.rt v H'
  | .ex c d env' h' => ∀ et' H' σ' cls dd, et <+: et' → Ext H H' → HRel G et' h' H' → EnvR G et' H' env' σ' → ExOk G et' H' c d cls dd → W cls dd σ' H'
  | .no => False
def tS (G : Cf) (W : WX) (m : MS) : TS := fun D σ H => ∃ et env h, EnvR G et H env σ ∧ HRel G et h H ∧ PstS G et H (m env h) D W

theorem PE.imp {X : Cx} {e : Expr} {t t' : TE} (h : PE X e t) (k : ∀ σ H Q, t' σ H Q → t σ H Q) : PE X e t' := ⟨fun pins s σ H Q I x => h.run pins s σ H Q I (k σ H Q x)⟩
theorem PT.imp {X : Cx} {e : Expr} {t t' : TT} (h : PT X e t) (k : ∀ σ H Q, t' σ H Q → t σ H Q) : PT X e t' := ⟨fun pins s σ H Q I x => h.run pins s σ H Q I (k σ H Q x)⟩
theorem PW.imp {X : Cx} {e : Expr} {t t' : TT} (h : PW X e t) (k : ∀ σ H Q, t' σ H Q → t σ H Q) : PW X e t' := ⟨fun wh pins s σ H Q I x => h.run wh pins s σ H Q I (k σ H Q x)⟩
theorem PA.imp {X : Cx} {e : List Expr} {t t' : TA} (h : PA X e t) (k : ∀ σ H Q, t' σ H Q → t σ H Q) : PA X e t' := ⟨fun pos pins s σ H Q I x => h.run pos pins s σ H Q I (k σ H Q x)⟩
theorem PS.imp {X : Cx} {e : Stmt} {t t' : TS} (h : PS X e t) (k : ∀ D σ H, t' D σ H → t D σ H) : PS X e t' := ⟨fun pins s σ H D I x => h.run pins s σ H D I (k D σ H x)⟩
theorem PSs.imp {X : Cx} {e : List Stmt} {t t' : TS} (h : PSs X e t) (k : ∀ D σ H, t' D σ H → t D σ H) : PSs X e t' := ⟨fun pins s σ H D I x => h.run pins s σ H D I (k D σ H x)⟩

section
variable {G : Cf} {W : WX} {σ : L2.St} {H : Hp} {A B : Type}
/-- two in a row -/
theorem tE.bind {m : ME} {k : EV → D → IH → R D} {Q : VK} (x : tE G W (fun env h => (m env h).bind (k env)) σ H Q) :
    tE G W m σ H fun v H1 => ∃ et1 env h1 d, EnvR G et1 H1 env σ ∧ HRel G et1 h1 H1 ∧ Den G et1 H1 d v ∧ Pst G et1 H1 (k env d h1) (fun et' H' _ d => ∀ v, Den G et' H' d v → Q v H') (fun c d H' => W c d σ H') := by
  obtain ⟨et, env, h, hE, hH, hP⟩ := x
  exact ⟨et, env, h, hE, hH, (Pst.of_bind hP).imp fun et1 H1 h1 a p e hr q v hv => ⟨et1, env, h1, a, hE.mono p e, hr, hv, q⟩⟩
end

/-! ### names, constants -/
def mVar (i : Nat) : ME := fun env h => match env[i]? with
  | some (some d) => .ok d h
  | _ => .no
def mC (d : D) : ME := fun _ h => .ok d h
section
variable {X : Cx} {G : Cf} {W : WX}
theorem me_var (i : Nat) {x : Str} {pos : Pos} (hN : X.N[i]? = some x := by rfl) (hv : Vis X.env.scope x := by first | exact Or.inl rfl | exact Or.inr (Or.inl rfl) | exact Or.inr (Or.inr rfl)) (hd : (x == ("__debug__" : Str)) = false := by decide)
    (hcd : (x == ("__classdict__" : Str)) = false := by decide) : PE X (.Name x pos) (tE G W (mVar i)) :=
  PE.imp (pe_var hN hv hd hcd) fun σ H Q ⟨et, env, h, hE, hH, hP⟩ => by
    unfold mVar at hP
    split at hP
    · rename_i d hd
      obtain ⟨v, e1, r⟩ := hE.2 i d hd
      exact ⟨v, e1, hP et H List.prefix_rfl (Ext.refl H) hH v r⟩
    · exact hP.elim
theorem tE.const {d : D} {v : V} {σ : L2.St} {H : Hp} {Q : VK} (x : tE G W (mC d) σ H Q) (r : ∀ et, Den G et H d v) : Q v H := by
  obtain ⟨et, env, h, hE, hH, hP⟩ := x
  exact hP et H List.prefix_rfl (Ext.refl H) hH v (r et)
theorem me_int {i j pos} : PE X (.Constant (.int i) j pos) (tE G W (mC (.int i))) := PE.imp pe_int fun _ _ _ x => x.const (v := .int i) fun et => by simp [Den]
theorem me_bl {b j pos} : PE X (.Constant (.bool b) j pos) (tE G W (mC (.bl b))) := PE.imp pe_bl fun _ _ _ x => x.const (v := .bl b) fun et => by simp [Den]
theorem me_non {j pos} : PE X (.Constant .none j pos) (tE G W (mC .non)) := PE.imp pe_non fun _ _ _ x => x.const (v := .non) fun et => by simp [Den]
theorem me_str {x : Str} {j pos} (s : List Nat) (e : strV s = x := by decide +kernel) : PE X (.Constant (.str x) j pos) (tE G W (mC (.str s))) := PE.imp pe_str fun _ _ _ y => y.const (v := .str x) fun et => by simp [Den, e]
/-- a module's constant that is a number or a text -/
def OfC : D → Value → Prop
  | .int i, u => ∃ t, u = .int i t
  | .str s, u => ∃ t, u = .str (strV s) t
  | _, _ => False
theorem me_glob {x : Str} {u : Value} {pos : Pos} (d : D) (r : OfC d u) (hm : X.mg x = some u) (hg : Gl X x := by rfl) (hd : (x == ("__debug__" : Str)) = false := by decide) : PE X (.Name x pos) (tE G W (mC d)) := by
  cases d with
  | int i => exact PE.imp (pe_glob (v := .int i) hg hm r hd) fun _ _ _ y => y.const (v := .int i) fun et => by simp [Den]
  | str s => exact PE.imp (pe_glob (v := .str (strV s)) hg hm r hd) fun _ _ _ y => y.const (v := .str (strV s)) fun et => by simp [Den]
  | _ => exact r.elim
end

/-! ### operators by values -/
/-- f on trees is what the rule r asks -/
def OpS (G : Cf) (r : R2) (f : D → D → IH → R D) : Prop := ∀ (et : List Addr) (H : Hp) (h : IH) (x y : D) (v w : V) (W : Value → Option Addr → Hp → Prop) (Q : VK), Den G et H x v → Den G et H y w → HRel G et h H →
  Pst G et H (f x y h) (fun et' H' _ d => ∀ v, Den G et' H' d v → Q v H') W → r v w H Q
def mOp (f : D → D → IH → R D) (a b : ME) : ME := fun env h => (a env h).bind fun x h1 => (b env h1).bind fun y h2 => f x y h2
section
variable {X : Cx} {G : Cf} {W : WX} {a b e : Expr} {ma mb mc : ME} {pos : Pos} {r : R2} {f : D → D → IH → R D}
theorem tOp_of {σ : L2.St} {H : Hp} {Q : VK} (hs : OpS G r f) (x : tE G W (mOp f ma mb) σ H Q) : tOp r (tE G W ma) (tE G W mb) σ H Q := by
  obtain ⟨et, env, h, hE, hH, hP⟩ := x
  refine ⟨et, env, h, hE, hH, (Pst.of_bind hP).imp fun et1 H1 h1 x p e hr q v hv => ?_⟩
  refine ⟨et1, env, h1, hE.mono p e, hr, (Pst.of_bind q).imp fun et2 H2 h2 y p2 e2 hr2 q2 w hw => ?_⟩
  exact hs et2 H2 h2 x y v w _ Q (hv.mono p2 e2) hw hr2 q2
theorem me_op {op : Operator} (ho : OpR X (binaryOp op) r) (hs : OpS G r f) (ha : PE X a (tE G W ma)) (hb : PE X b (tE G W mb)) : PE X (.BinOp a op b pos) (tE G W (mOp f ma mb)) :=
  PE.imp (pe_op ho ha hb) fun _ _ _ x => tOp_of hs x
theorem me_cmp {op : CmpOp} (ho : OpR X (compareOp op) r) (hs : OpS G r f) (ha : PE X a (tE G W ma)) (hb : PE X b (tE G W mb)) (hm : behindInMarks op b = false := by first | exact nomark _ | rfl) : PE X (.Compare a [op] [b] pos) (tE G W (mOp f ma mb)) :=
  PE.imp (pe_cmpR ho ha hb hm) fun _ _ _ x => tOp_of hs x
end
#check @nomark
#check @pe_cmpR
#check @pt_truth
#check @pt_cmpR
end NR

set_option Elab.async false
set_option linter.all false
set_option maxRecDepth 100000
/-! Operators. -/
namespace NR
open PySem PySem.Spec PyProof.Rows L2

theorem sz {n : Nat} (h : n ≤ 10000000) : n ≤ sizeLine := by rw [sizeLine_eq]; omega
section
variable {G : Cf} {et : List Addr} {H : Hp} {v : V}
@[simp] theorem den_non : Den G et H .non v ↔ v = .non := by simp [Den]
@[simp] theorem den_bl {b : Bool} : Den G et H (.bl b) v ↔ v = .bl b := by simp [Den]
@[simp] theorem den_int {i : Int} : Den G et H (.int i) v ↔ v = .int i := by simp [Den]
@[simp] theorem den_str {s : List Nat} : Den G et H (.str s) v ↔ v = .str (strV s) := by simp [Den]
@[simp] theorem den_tup {l : List D} : Den G et H (.tup l) v ↔ ∃ a vs, v = .ref a ∧ TpT H a vs ∧ DenL G et H l vs := by simp [Den]
@[simp] theorem den_ref {n : Nat} : Den G et H (.ref n) v ↔ ∃ a, et[n]? = some a ∧ v = .ref a := by simp [Den]
@[simp] theorem den_fl {l : List D} : Den G et H (.fl l) v ↔ ∃ a vs, v = .ref a ∧ FrzM H a vs ∧ DenL G et H l vs := by simp [Den]
@[simp] theorem den_fd {ks : List DKey} {l : List D} : Den G et H (.fd ks l) v ↔ ∃ a ws, v = .ref a ∧ FrzD H a ws ∧ ws.map (·.1) = ks.map keyV ∧ DenL G et H l (ws.map (·.2)) := by simp [Den]
@[simp] theorem denL_nil {vs : List V} : DenL G et H [] vs ↔ vs = [] := by simp [DenL]
@[simp] theorem denL_cons {d : D} {ds : List D} {vs : List V} : DenL G et H (d :: ds) vs ↔ ∃ v ws, vs = v :: ws ∧ Den G et H d v ∧ DenL G et H ds ws := by simp [DenL]
theorem DenL.len : ∀ {ds : List D} {vs : List V}, DenL G et H ds vs → vs.length = ds.length
  | [], _, h => by rw [denL_nil] at h; rw [h]; rfl
  | d :: ds, _, h => by
    obtain ⟨v, ws, rfl, _, h2⟩ := denL_cons.mp h
    simp [DenL.len h2]
theorem DenL.get : ∀ {ds : List D} {vs : List V} {i : Nat} {d : D}, DenL G et H ds vs → ds[i]? = some d → ∃ v, vs[i]? = some v ∧ Den G et H d v
  | [], _, _, _, _, e => by simp at e
  | d :: ds, _, i, d', h, e => by
    obtain ⟨v, ws, rfl, h1, h2⟩ := denL_cons.mp h
    cases i with
    | zero => simp at e; subst e; exact ⟨v, by simp, h1⟩
    | succ i => obtain ⟨u, a, b⟩ := DenL.get (i := i) h2 (by simpa using e); exact ⟨u, by simpa using a, b⟩
theorem DenL.get' : ∀ {ds : List D} {vs : List V} {i : Nat} {v : V}, DenL G et H ds vs → vs[i]? = some v → ∃ d, ds[i]? = some d ∧ Den G et H d v
  | [], _, _, _, h, e => by rw [denL_nil] at h; subst h; simp at e
  | d :: ds, _, i, v', h, e => by
    obtain ⟨v, ws, rfl, h1, h2⟩ := denL_cons.mp h
    cases i with
    | zero => simp at e; subst e; exact ⟨d, by simp, h1⟩
    | succ i => obtain ⟨u, a, b⟩ := DenL.get' (i := i) h2 (by simpa using e); exact ⟨u, by simpa using a, b⟩
theorem DenL.app : ∀ {ds es : List D} {vs ws : List V}, DenL G et H ds vs → DenL G et H es ws → DenL G et H (ds ++ es) (vs ++ ws)
  | [], _, _, _, h, k => by rw [denL_nil] at h; subst h; exact k
  | d :: ds, _, _, _, h, k => by
    obtain ⟨v, ws, rfl, h1, h2⟩ := denL_cons.mp h
    exact denL_cons.mpr ⟨v, _, rfl, h1, DenL.app h2 k⟩
theorem DenL.take : ∀ (n : Nat) {ds : List D} {vs : List V}, DenL G et H ds vs → DenL G et H (ds.take n) (vs.take n)
  | 0, _, _, _ => by simp
  | n + 1, [], _, h => by rw [denL_nil] at h; subst h; simp
  | n + 1, d :: ds, _, h => by
    obtain ⟨v, ws, rfl, h1, h2⟩ := denL_cons.mp h
    exact denL_cons.mpr ⟨v, _, rfl, h1, DenL.take n h2⟩
theorem DenL.drop : ∀ (n : Nat) {ds : List D} {vs : List V}, DenL G et H ds vs → DenL G et H (ds.drop n) (vs.drop n)
  | 0, _, _, h => by simpa using h
  | n + 1, [], _, h => by rw [denL_nil] at h; subst h; simp
  | n + 1, d :: ds, _, h => by
    obtain ⟨v, ws, rfl, h1, h2⟩ := denL_cons.mp h
    simpa using DenL.drop n h2
theorem DenL.set : ∀ {ds : List D} {vs : List V} (i : Nat) {d : D} {v : V}, DenL G et H ds vs → Den G et H d v → DenL G et H (ds.set i d) (vs.set i v)
  | [], _, _, _, _, h, _ => by rw [denL_nil] at h; subst h; simp
  | d :: ds, _, i, d', v', h, k => by
    obtain ⟨v, ws, rfl, h1, h2⟩ := denL_cons.mp h
    cases i with
    | zero => exact denL_cons.mpr ⟨_, _, rfl, k, h2⟩
    | succ i => exact denL_cons.mpr ⟨_, _, rfl, h1, DenL.set i h2 k⟩
theorem DenL.ints : ∀ {ns : List Int} {vs : List V}, DenL G et H (ns.map D.int) vs → vs = ns.map V.int
  | [], _, h => by simpa using h
  | n :: ns, _, h => by
    obtain ⟨v, ws, rfl, h1, h2⟩ := denL_cons.mp h
    rw [den_int.mp h1, DenL.ints h2]; rfl
theorem DenL.bls : ∀ {ns : List Bool} {vs : List V}, DenL G et H (ns.map D.bl) vs → vs = ns.map V.bl
  | [], _, h => by simpa using h
  | n :: ns, _, h => by
    obtain ⟨v, ws, rfl, h1, h2⟩ := denL_cons.mp h
    rw [den_bl.mp h1, DenL.bls h2]; rfl
theorem DenL.strs : ∀ {ns : List (List Nat)} {vs : List V}, DenL G et H (ns.map D.str) vs → vs = (ns.map strV).map V.str
  | [], _, h => by simpa using h
  | n :: ns, _, h => by
    obtain ⟨v, ws, rfl, h1, h2⟩ := denL_cons.mp h
    rw [den_str.mp h1, DenL.strs h2]; rfl
theorem DenL.ofInts : ∀ {ns : List Int}, DenL G et H (ns.map D.int) (ns.map V.int)
  | [] => by simp
  | n :: ns => denL_cons.mpr ⟨_, _, rfl, by simp, DenL.ofInts⟩
theorem DenL.ofStrs : ∀ {ns : List (List Nat)}, DenL G et H (ns.map D.str) ((ns.map strV).map V.str)
  | [] => by simp
  | n :: ns => denL_cons.mpr ⟨_, _, rfl, by simp, DenL.ofStrs⟩
end

/-- all of a list are of a kind -/
def allM {A : Type} (f : D → Option A) : List D → Option (List A)
  | [] => some []
  | d :: ds => match f d, allM f ds with
    | some a, some as => some (a :: as)
    | _, _ => none
def D.int? : D → Option Int
  | .int i => some i
  | _ => none
def D.bl? : D → Option Bool
  | .bl i => some i
  | _ => none
def D.str? : D → Option (List Nat)
  | .str i => some i
  | _ => none
theorem allM_ints : ∀ {ds : List D} {ns : List Int}, allM D.int? ds = some ns → ds = ns.map D.int
  | [], _, h => by simp [allM] at h; subst h; rfl
  | d :: ds, ns, h => by
    unfold allM at h
    cases e1 : D.int? d with
    | none => rw [e1] at h; simp at h
    | some a =>
      cases e2 : allM D.int? ds with
      | none => rw [e1, e2] at h; simp at h
      | some as =>
        rw [e1, e2] at h
        simp at h
        subst h
        rw [allM_ints e2]
        cases d <;> simp [D.int?] at e1
        subst e1
        rfl
theorem allM_bls : ∀ {ds : List D} {ns : List Bool}, allM D.bl? ds = some ns → ds = ns.map D.bl
  | [], _, h => by simp [allM] at h; subst h; rfl
  | d :: ds, ns, h => by
    unfold allM at h
    cases e1 : D.bl? d with
    | none => rw [e1] at h; simp at h
    | some a =>
      cases e2 : allM D.bl? ds with
      | none => rw [e1, e2] at h; simp at h
      | some as =>
        rw [e1, e2] at h
        simp at h
        subst h
        rw [allM_bls e2]
        cases d <;> simp [D.bl?] at e1
        subst e1
        rfl
theorem allM_strs : ∀ {ds : List D} {ns : List (List Nat)}, allM D.str? ds = some ns → ds = ns.map D.str
  | [], _, h => by simp [allM] at h; subst h; rfl
  | d :: ds, ns, h => by
    unfold allM at h
    cases e1 : D.str? d with
    | none => rw [e1] at h; simp at h
    | some a =>
      cases e2 : allM D.str? ds with
      | none => rw [e1, e2] at h; simp at h
      | some as =>
        rw [e1, e2] at h
        simp at h
        subst h
        rw [allM_strs e2]
        cases d <;> simp [D.str?] at e1
        subst e1
        rfl
@[simp] theorem allM_mkInts (ns : List Int) : allM D.int? (ns.map D.int) = some ns := by
  induction ns with
  | nil => rfl
  | cons n ns ih => simp [allM, D.int?, ih]
@[simp] theorem allM_mkBls (ns : List Bool) : allM D.bl? (ns.map D.bl) = some ns := by
  induction ns with
  | nil => rfl
  | cons n ns ih => simp [allM, D.bl?, ih]
@[simp] theorem allM_mkStrs (ns : List (List Nat)) : allM D.str? (ns.map D.str) = some ns := by
  induction ns with
  | nil => rfl
  | cons n ns ih => simp [allM, D.str?, ih]

/-! ### a list's or a tuple's items -/
def seqOf (h : IH) : D → Option (List D)
  | .tup l => some l
  | .fl l => some l
  | .ref n => match h[n]? with
    | some (.lst xs) => some xs
    | some (.frz xs) => some xs
    | _ => none
  | _ => none
def lstOf (h : IH) : D → Option (List D)
  | .fl l => some l
  | .ref n => match h[n]? with
    | some (.lst xs) => some xs
    | some (.frz xs) => some xs
    | _ => none
  | _ => none
section
variable {G : Cf} {et : List Addr} {H : Hp} {h : IH}
theorem lst_ok (R : HRel G et h H) {x : D} {xs : List D} {v : V} (e : lstOf h x = some xs) (r : Den G et H x v) : ∃ a vs, v = .ref a ∧ SqL G.K H a vs ∧ DenL G et H xs vs := by
  cases x with
  | fl l =>
    simp only [lstOf, Option.some.injEq] at e
    subst e
    obtain ⟨a, vs, h1, h2, h3⟩ := den_fl.mp r
    exact ⟨a, vs, h1, h2.sq, h3⟩
  | ref n =>
    obtain ⟨a, h1, rfl⟩ := den_ref.mp r
    simp only [lstOf] at e
    split at e
    · rename_i ys hy
      cases e
      obtain ⟨vs, h2, h3⟩ := R.cell n _ a hy h1
      exact ⟨a, vs, rfl, SqL.of h2, h3⟩
    · rename_i ys hy
      cases e
      obtain ⟨vs, h2, h3⟩ := R.cell n _ a hy h1
      exact ⟨a, vs, rfl, h2.sq, h3⟩
    · cases e
  | _ => simp [lstOf] at e
theorem seq_ok (R : HRel G et h H) {x : D} {xs : List D} {v : V} (e : seqOf h x = some xs) (r : Den G et H x v) : ∃ a vs, v = .ref a ∧ (SqL G.K H a vs ∨ SqT G.K H a vs) ∧ DenL G et H xs vs := by
  cases x with
  | tup l =>
    simp only [seqOf, Option.some.injEq] at e
    subst e
    obtain ⟨a, vs, h1, h2, h3⟩ := den_tup.mp r
    exact ⟨a, vs, h1, .inr h2, h3⟩
  | ref n =>
    obtain ⟨a, vs, h1, h2, h3⟩ := lst_ok R (x := .ref n) (by simpa only [lstOf, seqOf] using e) r
    exact ⟨a, vs, h1, .inl h2, h3⟩
  | fl l =>
    obtain ⟨a, vs, h1, h2, h3⟩ := lst_ok R (x := .fl l) (by simpa only [lstOf, seqOf] using e) r
    exact ⟨a, vs, h1, .inl h2, h3⟩
  | _ => simp [seqOf] at e
theorem Pst.here {A : Type} {a : A} {F : List Addr → Hp → IH → A → Prop} {W : Value → Option Addr → Hp → Prop} (R : HRel G et h H) (x : Pst G et H (.ok a h) F W) : F et H h a := x et H List.prefix_rfl (Ext.refl H) R
/-- a new tuple -/
theorem Pst.newT {l : List D} {vs : List V} {Q : VK} {W : Value → Option Addr → Hp → Prop} (R : HRel G et h H) (r : DenL G et H l vs) (x : Pst G et H (.ok (.tup l) h) (fun et' H' _ d => ∀ v, Den G et' H' d v → Q v H') W) :
    ∀ p, H p = none → Q (.ref p) (upd H p (.tup vs)) := fun p hp =>
  x et (upd H p (.tup vs)) List.prefix_rfl (Ext.new hp) (R.new hp) _ (den_tup.mpr ⟨p, vs, rfl, upd_same, r.mono List.prefix_rfl (Ext.new hp)⟩)
/-- a new list -/
theorem Pst.newL {l : List D} {vs : List V} {Q : VK} {W : Value → Option Addr → Hp → Prop} (R : HRel G et h H) (r : DenL G et H l vs) (x : Pst G et H (.ok (.ref h.length) (h ++ [.lst l])) (fun et' H' _ d => ∀ v, Den G et' H' d v → Q v H') W) :
    ∀ p, H p = none → Q (.ref p) (upd H p (.lst vs)) := fun p hp => by
  refine x (et ++ [p]) (upd H p (.lst vs)) (List.prefix_append _ _) (Ext.new hp) (R.push hp ⟨vs, upd_same, r.mono (List.prefix_append _ _) (Ext.new hp)⟩) _ (den_ref.mpr ⟨p, ?_, rfl⟩)
  rw [← R.len, List.getElem?_append_right (Nat.le_refl _), Nat.sub_self]
  rfl
end

/-- a list that stands in the heap -/
def lsOf (h : IH) : D → Option (List D)
  | .fl l => some l
  | .ref n => match h[n]? with
    | some (.lst xs) => some xs
    | _ => none
  | _ => none
theorem ls_ok {G : Cf} {et : List Addr} {H : Hp} {h : IH} (R : HRel G et h H) {x : D} {xs : List D} {v : V} (e : lsOf h x = some xs) (r : Den G et H x v) : ∃ a vs, v = .ref a ∧ Rd H a (.lst vs) ∧ DenL G et H xs vs := by
  cases x with
  | fl l =>
    simp only [lsOf, Option.some.injEq] at e
    subst e
    obtain ⟨a, vs, h1, h2, h3⟩ := den_fl.mp r
    exact ⟨a, vs, h1, h2.rd, h3⟩
  | ref n =>
    obtain ⟨a, h1, rfl⟩ := den_ref.mp r
    simp only [lsOf] at e
    split at e
    · rename_i ys hy
      cases e
      obtain ⟨vs, h2, h3⟩ := R.cell n _ a hy h1
      exact ⟨a, vs, rfl, .inl h2, h3⟩
    · cases e
  | _ => simp [lsOf] at e
/-! ### arithmetic -/
def dI (C : Int → Int → Bool) (g : Int → Int → Int) : D → D → IH → R D
  | .int i, .int j, h => if C i j then .ok (.int (g i j)) h else .no
  | _, _, _ => .no
theorem opS_I {G : Cf} {C : Int → Int → Bool} {C' : Int → Int → Prop} {g : Int → Int → Int} (hC : ∀ i j, C i j = true → C' i j) : OpS G (rI C' fun i j => .int (g i j)) (dI C g) := by
  intro et H h x y v w W Q rx ry R p
  unfold dI at p
  split at p
  · rename_i i j
    split at p
    · rename_i c
      exact ⟨i, j, den_int.mp rx, den_int.mp ry, hC i j c, p.here R _ (by simp)⟩
    · exact p.elim
  · exact p.elim
def dSub : D → D → IH → R D
  | .int i, .int j, h => .ok (.int (i - j)) h
  | _, _, _ => .no
def cMul (i j : Int) : Bool := (decide (-(2 ^ 64) < i) && decide (i < 2 ^ 64)) || (decide (-(2 ^ 64) < j) && decide (j < 2 ^ 64))
def cDiv (_ j : Int) : Bool := decide (0 < j) && decide (j < 2 ^ 64)
def cMod (_ j : Int) : Bool := decide (0 < j)
def cPow (i j : Int) : Bool := decide (0 ≤ j) && decide (j ≤ 1000000) && decide (i.natAbs < 2 ^ 64)
def dMul : D → D → IH → R D
  | .int i, .int j, h => if cMul i j then .ok (.int (i * j)) h else .no
  | .str a, .int k, h => if 0 ≤ k ∧ k ≤ 1000 ∧ a.length ≤ 10000 then .ok (.str (List.replicate k.toNat a).flatten) h else .no
  | .tup l, .int k, h => if 0 < l.length ∧ 2 ≤ k ∧ k ≤ 1000 ∧ l.length ≤ 1000 then .ok (.tup (List.replicate k.toNat l).flatten) h else if k = 1 then .ok (.tup l) h else .no
  | .ref n, .int k, h => match h[n]? with
    | some (.lst xs) => if k ≤ 10000000 ∧ -10000000 ≤ k ∧ xs.length * k.toNat ≤ 10000000 then .ok (.ref h.length) (h ++ [.lst (List.replicate k.toNat xs).flatten]) else .no
    | _ => .no
  | _, _, _ => .no
abbrev dDiv := dI cDiv fun i j => i / j
abbrev dMod := dI cMod fun i j => i % j
abbrev dPow := dI cPow fun i j => i ^ j.toNat
def dAdd : D → D → IH → R D
  | .int i, .int j, h => .ok (.int (i + j)) h
  | .str a, .str b, h => if a.length + b.length ≤ 10000000 then .ok (.str (a ++ b)) h else .no
  | .tup a, .tup b, h => if a.length + b.length ≤ 10000000 then .ok (.tup (a ++ b)) h else .no
  | x, y, h => match lsOf h x, lsOf h y with
    | some xs, some ys => if xs.length + ys.length ≤ 10000000 then .ok (.ref h.length) (h ++ [.lst (xs ++ ys)]) else .no
    | _, _ => .no
section
variable {X : Cx} {G : Cf} {W : WX} {a b e : Expr} {ma mb mc : ME} {pos : Pos}
theorem me_sub (ha : PE X a (tE G W ma)) (hb : PE X b (tE G W mb)) : PE X (.BinOp a .Sub b pos) (tE G W (mOp dSub ma mb)) := by
  refine me_op op_sub ?_ ha hb
  intro et H h x y v w W Q rx ry R p
  unfold dSub at p
  split at p
  · exact ⟨_, _, den_int.mp rx, den_int.mp ry, p.here R _ (by simp)⟩
  · exact p.elim
theorem me_mod (ha : PE X a (tE G W ma)) (hb : PE X b (tE G W mb)) : PE X (.BinOp a .Mod b pos) (tE G W (mOp dMod ma mb)) :=
  me_op op_mod (opS_I fun i j c => by simpa [cMod] using c) ha hb
theorem me_div (ha : PE X a (tE G W ma)) (hb : PE X b (tE G W mb)) : PE X (.BinOp a .FloorDiv b pos) (tE G W (mOp dDiv ma mb)) :=
  me_op op_fdivW (opS_I fun i j c => by
    have c' : 0 < j ∧ j < 2 ^ 64 := by simpa [cDiv] using c
    exact wide_div c'.1 (b := 64) (by omega) (by decide) (by decide)) ha hb
theorem me_pow (ha : PE X a (tE G W ma)) (hb : PE X b (tE G W mb)) : PE X (.BinOp a .Pow b pos) (tE G W (mOp dPow ma mb)) :=
  me_op op_pow (opS_I fun i j c => by
    have c' : (0 ≤ j ∧ j ≤ 1000000) ∧ i.natAbs < 2 ^ 64 := by simpa [cPow] using c
    exact ⟨c'.1.1, c'.1.2, c'.2⟩) ha hb
theorem den_list {et : List Addr} {H : Hp} {h : IH} (R : HRel G et h H) {n : Nat} {xs : List D} {v : V} (e : h[n]? = some (.lst xs)) (r : Den G et H (.ref n) v) : ∃ a vs, et[n]? = some a ∧ v = .ref a ∧ H a = some (.lst vs) ∧ DenL G et H xs vs := by
  obtain ⟨a, h1, rfl⟩ := den_ref.mp r
  obtain ⟨vs, h2, h3⟩ := R.cell n _ a e h1
  exact ⟨a, vs, h1, rfl, h2, h3⟩
theorem DenL.flat {et : List Addr} {H : Hp} {xs : List D} {vs : List V} (r : DenL G et H xs vs) : ∀ k : Nat, DenL G et H (List.replicate k xs).flatten (List.replicate k vs).flatten
  | 0 => by simp
  | k + 1 => by
    rw [List.replicate_succ, List.replicate_succ, List.flatten_cons, List.flatten_cons]
    exact r.app (r.flat k)
end

section
variable {X : Cx}
theorem Inv.lstR {pins : List (Addr × Obj)} {σ : L2.St} {H : Hp} {s : Shared} {a : Addr} {xs : List V} (I : Inv X pins σ H s) (r : Rd H a (.lst xs)) : xs.length ≤ sizeLine ∧ ∃ (its : List Value) (n : Nat), Vals xs its ∧ s.heap.get? a = some { cls := .type "list", data := .seq its.toArray n } := by
  rcases r with r | ⟨o, r⟩
  · exact I.hok a _ r
  · exact (I.hok a _ r).2
def rCatR : R2 := fun x y H Q => ∃ l b xs zs, x = .ref l ∧ y = .ref b ∧ Rd H l (.lst xs) ∧ Rd H b (.lst zs) ∧ xs.length + zs.length ≤ sizeLine ∧ ∀ p, H p = none → Q (.ref p) (upd H p (.lst (xs ++ zs)))
theorem op_catR : OpR X (binaryOp .Add) rCatR := by
  intro pins s σ H x y v u Q I rx ry h
  obtain ⟨l, b, xs, zs, rfl, rfl, hH, hB, hz, q⟩ := h
  cases rx
  cases ry
  obtain ⟨z, its, n, r, e⟩ := Inv.lstR I hH
  obtain ⟨z2, its2, n2, r2, e2⟩ := Inv.lstR I hB
  refine PySem.P.add_list e e2 ?_ (by rw [List.size_toArray, List.size_toArray, ← r.length, ← r2.length]; omega)
  have ea : its.toArray ++ its2.toArray = (its ++ its2).toArray := by simp
  rw [ea]
  exact ⟨.ref _, _, I.lnew (t' := s.toks) (r.append r2) (by rw [List.length_append]; omega), rfl, q _ I.fresh⟩
end
section
variable {X : Cx} {G : Cf} {W : WX} {a b e : Expr} {ma mb mc : ME} {pos : Pos}
theorem foldl_arr (a : List Nat) : ∀ (n : Nat) (z : Array Nat), (List.replicate n a.toArray).foldl (· ++ ·) z = z ++ (List.replicate n a).flatten.toArray
  | 0, z => by simp
  | n + 1, z => by
    rw [List.replicate_succ, List.foldl_cons, foldl_arr a n, List.replicate_succ, List.flatten_cons, Array.append_assoc]
    simp
def rRepS : R2 := fun x y H Q => ∃ a k, x = .str (strV a) ∧ y = .int k ∧ 0 ≤ k ∧ k ≤ 1000 ∧ a.length ≤ 10000 ∧ Q (.str (strV (List.replicate k.toNat a).flatten)) H
theorem op_repS : OpR X (binaryOp .Mult) rRepS := by
  intro pins s σ H x y v u Q I rx ry h
  obtain ⟨w, k, rfl, rfl, h0, h1, hl, q⟩ := h
  obtain ⟨t, rfl⟩ := rx
  obtain ⟨t', rfl⟩ := ry
  have ln : (strV w).length = w.length := by show w.toArray.size = _; simp
  have mm : w.length * k.toNat ≤ 10000 * 1000 := Nat.mul_le_mul hl (by omega)
  have nl : PySem.Builtin.Str.tooLong ((strV w).length * k.toNat) = false := by
    rw [ln]; unfold PySem.Builtin.Str.tooLong; rw [sizeLine_eq]; simp; omega
  refine PySem.P.mul_str (by
    have a1 : ¬ k < -(2 ^ 63 : Int) := by omega
    have a2 : ¬ k ≥ 2 ^ 63 := by omega
    rw [decide_eq_false a1, decide_eq_false a2]; rfl) (fun hk _ => ?_) (fun _ _ => nl) ?_
  · rw [ln]
    have hk' : 0 < k := by omega
    have := (Int.le_ediv_iff_mul_le (a := (w.length : Int)) (b := 2 ^ 63 - 1) hk').mpr (by
      have e : (w.length : Int) * k = ((w.length * k.toNat : Nat) : Int) := by rw [Int.natCast_mul, Int.toNat_of_nonneg h0]
      rw [e]; omega)
    omega
  · by_cases c1 : k < 1
    · rw [if_pos c1]
      have : k = 0 := by omega
      subst this
      exact ⟨by decide, ⟨.str _, H, I.tok _, ⟨_, rfl⟩, q⟩⟩
    · rw [if_neg c1]
      by_cases c2 : (k == 1 || (strV w).length == 0) = true
      · rw [if_pos c2]
        have e : (List.replicate k.toNat w).flatten = w := by
          rw [Bool.or_eq_true, beq_iff_eq, beq_iff_eq, ln] at c2
          rcases c2 with c2 | c2
          · subst c2; simp
          · have := List.eq_nil_of_length_eq_zero c2
            subst this; simp
        rw [e] at q
        exact ⟨.str _, H, I.tok _, ⟨_, rfl⟩, q⟩
      · rw [if_neg c2]
        have e : (⟨(List.replicate k.toNat (strV w).cps).foldl (· ++ ·) #[]⟩ : Str) = strV (List.replicate k.toNat w).flatten := by
          show (⟨(List.replicate k.toNat w.toArray).foldl (· ++ ·) #[]⟩ : Str) = ⟨_⟩
          rw [foldl_arr]; simp
        rw [e]
        exact ⟨by
          show (List.replicate k.toNat w).flatten.toArray.size ≤ _
          rw [sizeLine_eq]; simp [List.length_flatten]; rw [Nat.mul_comm]; omega, ⟨.str _, H, I.tok _, ⟨_, rfl⟩, q⟩⟩
theorem tuple_mul1 (l : Addr) (items : Array Value) (n : Nat) (dd : Option Addr) (sl : Array (Option Value)) (u : Tok) :
    Meets (Builtin.«tuple.__mul__» ⟨[.ref l, .int 1 u], []⟩) (fun _ R s => s.heap.get? l = some { cls := .type "tuple", dict := dd, data := .seq items n, slots := sl } ∧ R (.ok (.ret (Value.ref l))) s) :=
  .of_wp fun prog w A R s h => by
    obtain ⟨hp, g, d, tk, os⟩ := s
    obtain ⟨hl, h⟩ := h
    have f1 := AutoSeq1.idx_int
    wp_walk using wpAny_loadPart' hl
    exact ⟨_, rfl, h⟩
def rRepT1 (K : PySem.W.Frag) : R2 := fun x y H Q => ∃ l xs, x = .ref l ∧ y = .int 1 ∧ SqT K H l xs ∧ Q (.ref l) H
theorem op_repT1 : OpR X (binaryOp .Mult) (rRepT1 X.K) := by
  intro pins s σ H x y v u Q I rx ry h
  obtain ⟨l, xs, rfl, rfl, hT, q⟩ := h
  cases rx
  obtain ⟨t, rfl⟩ := ry
  obtain ⟨its, r, ⟨⟨cls, dd, data, sl⟩, ho, hc, n, hd⟩, hs⟩ := I.tuple hT
  simp only at hc hd
  subst hc hd
  refine wpAny_binaryOp_repeat_ref (T := "tuple") (U := "int") (by decide) ⟨_, ho, rfl⟩ (fun s' => typeIs_int s' 1 t) noFill_tuple_mul F.fills_int_mul F.slot_int_rmul repeat_tuple F.slot_int_index.lookup
    (call_meets F.slot_int_rmul (typeIs_int s 1 t) F.entry_int_rmul (F.args_int_rmul_2 _ _) (int_rmul_tuple 1 t l its.toArray n dd sl)
      ⟨ho, rfl, ⟨_, ho, rfl⟩, call_meets F.slot_tuple_mul ⟨_, ho, rfl⟩ F.entry_tuple_mul (F.args_tuple_mul_2 _ _) (tuple_mul1 l its.toArray n dd sl t) ⟨ho, ?_⟩⟩)
  exact ⟨.ref l, H, I, rfl, q⟩
def rMulAll (K : PySem.W.Frag) : R2 := fun x y H Q => rI CMul (fun i j => .int (i * j)) x y H Q ∨ rRep x y H Q ∨ rRepT K x y H Q ∨ rRepS x y H Q ∨ rRepT1 K x y H Q
theorem op_mulAll : OpR X (binaryOp .Mult) (rMulAll X.K) := OpR.or op_mul (OpR.or op_rep (OpR.or op_repT (OpR.or op_repS op_repT1)))
theorem me_mul (hK : X.K = G.K) (ha : PE X a (tE G W ma)) (hb : PE X b (tE G W mb)) : PE X (.BinOp a .Mult b pos) (tE G W (mOp dMul ma mb)) := by
  refine me_op op_mulAll ?_ ha hb
  intro et H h x y v w W Q rx ry R p
  rw [hK]
  unfold dMul at p
  split at p
  · split at p
    · rename_i i j c
      refine .inl ⟨i, j, den_int.mp rx, den_int.mp ry, ?_, p.here R _ (by simp)⟩
      simpa [cMul, CMul] using c
    · exact p.elim
  · split at p
    · rename_i a k c
      exact .inr (.inr (.inr (.inl ⟨a, k, den_str.mp rx, den_int.mp ry, c.1, c.2.1, c.2.2, p.here R _ (by simp)⟩)))
    · exact p.elim
  · split at p
    · rename_i l k c
      obtain ⟨a, vs, rfl, h2, h3⟩ := den_tup.mp rx
      refine .inr (.inr (.inl ⟨a, k, vs, rfl, den_int.mp ry, h2, ?_, c.2.1, c.2.2.1, by rw [h3.len]; exact c.2.2.2, p.newT R (h3.flat _)⟩))
      rintro rfl
      have := h3.len
      simp at this
      omega
    · split at p
      · rename_i e1
        subst e1
        obtain ⟨a, vs, rfl, h2, h3⟩ := den_tup.mp rx
        exact .inr (.inr (.inr (.inr ⟨a, vs, rfl, den_int.mp ry, h2, p.here R _ rx⟩)))
      · exact p.elim
  · split at p
    · split at p
      · rename_i n k hh xs hx c
        obtain ⟨a, vs, h1, rfl, h2, h3⟩ := den_list R hx rx
        refine .inr (.inl ⟨a, k, vs, rfl, den_int.mp ry, h2, by omega, by omega, sz (by rw [h3.len]; exact c.2.2), ?_⟩)
        exact p.newL R (h3.flat _)
      · exact p.elim
    · exact p.elim
  · exact p.elim
def rAddAll (K : PySem.W.Frag) : R2 := fun x y H Q => rI0 (fun i j => .int (i + j)) x y H Q ∨ (∃ i j, x = .str i ∧ y = .str j ∧ i.length + j.length ≤ sizeLine ∧ Q (.str (i ++ j)) H) ∨ rCatA K x y H Q ∨ rCatR x y H Q
theorem op_addAll : OpR X (binaryOp .Add) (rAddAll X.K) := OpR.or op_add (OpR.or op_add_str (OpR.or op_catA op_catR))
theorem strV_app (a b : List Nat) : strV a ++ strV b = strV (a ++ b) := by
  show (⟨a.toArray ++ b.toArray⟩ : Str) = ⟨(a ++ b).toArray⟩
  simp
theorem dAdd_ok (hK : X.K = G.K) : OpS G (rAddAll X.K) dAdd := by
  intro et H h x y v w W Q rx ry R p
  rw [hK]
  unfold dAdd at p
  split at p
  · exact .inl ⟨_, _, den_int.mp rx, den_int.mp ry, p.here R _ (by simp)⟩
  · split at p
    · rename_i c
      refine .inr (.inl ⟨_, _, den_str.mp rx, den_str.mp ry, ?_, ?_⟩)
      · rw [strV_length, strV_length]; exact sz c
      · exact p.here R _ (by simp [strV_app])
    · exact p.elim
  · split at p
    · rename_i l m c
      obtain ⟨a, vs, rfl, h2, h3⟩ := den_tup.mp rx
      obtain ⟨b, ws, rfl, k2, k3⟩ := den_tup.mp ry
      refine .inr (.inr (.inl ⟨a, b, vs, ws, rfl, rfl, h2, k2, sz (by rw [h3.len, k3.len]; exact c), fun e => ?_, fun e1 e => ?_, fun _ _ => p.newT R (h3.app k3)⟩))
      · have hl : l = [] := by
          have := h3.len
          rw [e] at this
          exact List.eq_nil_of_length_eq_zero this.symm
        subst hl
        exact p.here R _ (den_tup.mpr ⟨b, ws, rfl, k2, k3⟩)
      · have hl : m = [] := by
          have := k3.len
          rw [e] at this
          exact List.eq_nil_of_length_eq_zero this.symm
        subst hl
        exact p.here R _ (den_tup.mpr ⟨a, vs, rfl, h2, by simpa using h3⟩)
    · exact p.elim
  · split at p
    · split at p
      · rename_i xs ys hx hy c
        obtain ⟨a, vs, rfl, h2, h3⟩ := ls_ok R hx rx
        obtain ⟨b, ws, rfl, k2, k3⟩ := ls_ok R hy ry
        exact .inr (.inr (.inr ⟨a, b, vs, ws, rfl, rfl, h2, k2, sz (by rw [h3.len, k3.len]; exact c), p.newL R (h3.app k3)⟩))
      · exact p.elim
    · exact p.elim
theorem me_add (hK : X.K = G.K) (ha : PE X a (tE G W ma)) (hb : PE X b (tE G W mb)) : PE X (.BinOp a .Add b pos) (tE G W (mOp dAdd ma mb)) := me_op op_addAll (dAdd_ok hK) ha hb
/-- order of ints -/
def dC (g : Int → Int → Bool) : D → D → IH → R D
  | .int i, .int j, h => .ok (.bl (g i j)) h
  | _, _, _ => .no
theorem opS_C {g : Int → Int → Bool} : OpS G (rI0 fun i j => .bl (g i j)) (dC g) := by
  intro et H h x y v w W Q rx ry R p
  unfold dC at p
  split at p
  · exact ⟨_, _, den_int.mp rx, den_int.mp ry, p.here R _ (by simp)⟩
  · exact p.elim
abbrev dLt := dC fun i j => decide (i < j)
abbrev dLe := dC fun i j => decide (i ≤ j)
abbrev dGt := dC fun i j => decide (j < i)
abbrev dGe := dC fun i j => decide (j ≤ i)
/-! ### as data -/
def D.py (h : IH) : Nat → D → Option PyData
  | 0, _ => none
  | k + 1, d => match d with
    | .non => some .none
    | .bl b => some (.bool b)
    | .int i => some (.int i)
    | .str s => some (.str (strV s))
    | .tup l => (allM (D.py h k) l).map .tuple
    | .fl l => (allM (D.py h k) l).map .list
    | .ref n => match h[n]? with
      | some (.lst xs) => (allM (D.py h k) xs).map .list
      | some (.frz xs) => (allM (D.py h k) xs).map .list
      | _ => none
    | _ => none
end
theorem allM_cons {A : Type} {f : D → Option A} {d : D} {ds : List D} {r : List A} (e : allM f (d :: ds) = some r) : ∃ a as, f d = some a ∧ allM f ds = some as ∧ r = a :: as := by
  unfold allM at e
  split at e
  · rename_i a as h1 h2
    cases e
    exact ⟨a, as, h1, h2, rfl⟩
  · cases e
section
variable {G : Cf} {et : List Addr} {H : Hp} {h : IH}
theorem depthAll_le {n : Nat} : ∀ {ps : List PyData}, (∀ p ∈ ps, p.depth ≤ n) → PyData.depthAll ps ≤ n
  | [], _ => by simp [PyData.depthAll]
  | p :: ps, hp => by
    have h1 := hp p (List.mem_cons_self)
    have h2 := depthAll_le (ps := ps) fun q hq => hp q (List.mem_cons_of_mem _ hq)
    simp only [PyData.depthAll]
    omega
theorem py_all (R : HRel G et h H) {k : Nat} (ih : ∀ (d : D) (v : V) (p : PyData), D.py h k d = some p → Den G et H d v → Dp G.K H v p ∧ p.plain = true ∧ p.depth ≤ k) :
    ∀ (ds : List D) (vs : List V) (ps : List PyData), allM (D.py h k) ds = some ps → DenL G et H ds vs → DpAll G.K H vs ps ∧ PyData.plainAll ps = true ∧ ∀ p ∈ ps, p.depth ≤ k
  | [], vs, ps, e, r => by
    simp only [allM, Option.some.injEq] at e
    rw [denL_nil] at r
    subst e r
    exact ⟨.nil, by simp [PyData.plainAll], by simp⟩
  | d :: ds, vs, ps, e, r => by
    obtain ⟨p, ps', e1, e2, rfl⟩ := allM_cons e
    obtain ⟨v, ws, rfl, r1, r2⟩ := denL_cons.mp r
    obtain ⟨a1, a2, a3⟩ := ih d v p e1 r1
    obtain ⟨b1, b2, b3⟩ := py_all R ih ds ws ps' e2 r2
    exact ⟨.cons a1 b1, by simp [PyData.plainAll, a2, b2], by simpa using ⟨a3, b3⟩⟩
theorem py_ok (R : HRel G et h H) : ∀ (k : Nat) (d : D) (v : V) (p : PyData), D.py h k d = some p → Den G et H d v → Dp G.K H v p ∧ p.plain = true ∧ p.depth ≤ k
  | 0, _, _, _, e, _ => by simp [D.py] at e
  | k + 1, d, v, p, e, r => by
    have ih := py_all R (py_ok R k)
    cases d with
    | non => simp only [D.py, Option.some.injEq] at e; subst e; rw [den_non.mp r]; exact ⟨.non, by simp [PyData.plain], by simp [PyData.depth]⟩
    | bl b => simp only [D.py, Option.some.injEq] at e; subst e; rw [den_bl.mp r]; exact ⟨.bl b, by simp [PyData.plain], by simp [PyData.depth]⟩
    | int i => simp only [D.py, Option.some.injEq] at e; subst e; rw [den_int.mp r]; exact ⟨.int i, by simp [PyData.plain], by simp [PyData.depth]⟩
    | str s => simp only [D.py, Option.some.injEq] at e; subst e; rw [den_str.mp r]; exact ⟨.str _, by simp [PyData.plain], by simp [PyData.depth]⟩
    | tup l =>
      simp only [D.py, Option.map_eq_some_iff] at e
      obtain ⟨ps, e1, rfl⟩ := e
      obtain ⟨a, vs, rfl, r1, r2⟩ := den_tup.mp r
      obtain ⟨b1, b2, b3⟩ := ih l vs ps e1 r2
      exact ⟨.tup r1 b1, by simp [PyData.plain, b2], by simp only [PyData.depth]; have := depthAll_le b3; omega⟩
    | ref n =>
      obtain ⟨a, r1, rfl⟩ := den_ref.mp r
      simp only [D.py] at e
      split at e
      · rename_i xs hx
        simp only [Option.map_eq_some_iff] at e
        obtain ⟨ps, e1, rfl⟩ := e
        obtain ⟨vs, c1, c2⟩ := R.cell n _ a hx r1
        obtain ⟨b1, b2, b3⟩ := ih xs vs ps e1 c2
        exact ⟨.lst (SqL.of c1) b1, by simp [PyData.plain, b2], by simp only [PyData.depth]; have := depthAll_le b3; omega⟩
      · rename_i xs hx
        simp only [Option.map_eq_some_iff] at e
        obtain ⟨ps, e1, rfl⟩ := e
        obtain ⟨vs, c1, c2⟩ := R.cell n _ a hx r1
        obtain ⟨b1, b2, b3⟩ := ih xs vs ps e1 c2
        exact ⟨.lst c1.sq b1, by simp [PyData.plain, b2], by simp only [PyData.depth]; have := depthAll_le b3; omega⟩
      · cases e
    | fl l =>
      simp only [D.py, Option.map_eq_some_iff] at e
      obtain ⟨ps, e1, rfl⟩ := e
      obtain ⟨a, vs, rfl, r1, r2⟩ := den_fl.mp r
      obtain ⟨b1, b2, b3⟩ := ih l vs ps e1 r2
      exact ⟨.lst r1.sq b1, by simp [PyData.plain, b2], by simp only [PyData.depth]; have := depthAll_le b3; omega⟩
    | fd ks l => simp [D.py] at e
    | exc a => simp [D.py] at e
end
def rEqP (K : PySem.W.Frag) : R2 := fun x y H Q => ∃ d e, Dp K H x d ∧ Dp K H y e ∧ d.plain = true ∧ e.plain = true ∧ d.depth ≤ 50 ∧ Q (.bl (PyData.eqv d e)) H
def rNeP (K : PySem.W.Frag) : R2 := fun x y H Q => ∃ d e, Dp K H x d ∧ Dp K H y e ∧ d.plain = true ∧ e.plain = true ∧ d.depth ≤ 50 ∧ Q (.bl (!PyData.eqv d e)) H
section
variable {X : Cx}
theorem op_eqP (hu : X.A.units + 64 < cLine) : OpR X (compareOp .Eq) (rEqP X.K) := by
  intro pins s σ H x y v u Q I rx ry h
  obtain ⟨d, e, hd, he, pd, pe, dd, q⟩ := h
  obtain ⟨as, r1⟩ := Dp.reads I d x v hd rx
  obtain ⟨bs, r2⟩ := Dp.reads I e y u he ry
  exact SeqAt.eq_plain r1 r2 pd pe (by omega) ⟨.bl _, H, I, rfl, q⟩
theorem op_neP (hu : X.A.units + 64 < cLine) : OpR X (compareOp .NotEq) (rNeP X.K) := by
  intro pins s σ H x y v u Q I rx ry h
  obtain ⟨d, e, hd, he, pd, pe, dd, q⟩ := h
  obtain ⟨as, r1⟩ := Dp.reads I d x v hd rx
  obtain ⟨bs, r2⟩ := Dp.reads I e y u he ry
  exact SeqAt.ne_plain r1 r2 pd pe (by omega) ⟨.bl _, H, I, rfl, q⟩
def rInP (K : PySem.W.Frag) (neg : Bool) : R2 := fun x y H Q => ∃ d es, Dp K H x d ∧ (Dp K H y (.list es) ∨ Dp K H y (.tuple es)) ∧ d.plain = true ∧ PyData.plainAll es = true ∧ d.depth ≤ 50 ∧
  Q (.bl (if neg then !(es.any fun z => PyData.eqv z d) else es.any fun z => PyData.eqv z d)) H
theorem op_inP (hu : X.A.units + 64 < cLine) : OpR X (compareOp .In) (rInP X.K false) := by
  intro pins s σ H x y v u Q I rx ry h
  obtain ⟨d, es, hd, he, pd, pe, dd, q⟩ := h
  obtain ⟨as, r1⟩ := Dp.reads I d x v hd rx
  rcases he with he | he
  · obtain ⟨bs, r2⟩ := Dp.reads I _ y u he ry
    exact SeqAt.in_list_data r2 r1 pe pd (by omega) ⟨.bl _, H, I, rfl, by simpa using q⟩
  · obtain ⟨bs, r2⟩ := Dp.reads I _ y u he ry
    exact SeqAt.in_tuple_data r2 r1 pe pd (by omega) ⟨.bl _, H, I, rfl, by simpa using q⟩
theorem op_notInP (hu : X.A.units + 64 < cLine) : OpR X (compareOp .NotIn) (rInP X.K true) := by
  intro pins s σ H x y v u Q I rx ry h
  obtain ⟨d, es, hd, he, pd, pe, dd, q⟩ := h
  obtain ⟨as, r1⟩ := Dp.reads I d x v hd rx
  rcases he with he | he
  · obtain ⟨bs, r2⟩ := Dp.reads I _ y u he ry
    exact SeqAt.notIn_list_data r2 r1 pe pd (by omega) ⟨.bl _, H, I, rfl, by simpa using q⟩
  · obtain ⟨bs, r2⟩ := Dp.reads I _ y u he ry
    exact SeqAt.notIn_tuple_data r2 r1 pe pd (by omega) ⟨.bl _, H, I, rfl, by simpa using q⟩
end
def dEq (neg : Bool) : D → D → IH → R D := fun x y h => match D.py h 50 x, D.py h 50 y with
  | some a, some b => .ok (.bl (if neg then !PyData.eqv a b else PyData.eqv a b)) h
  | _, _ => .no
/-- x in y: a sign in a text, a datum in a list or a tuple -/
def dIn (neg : Bool) : D → D → IH → R D := fun x y h => match x, y with
  | .str [c], .str z => .ok (.bl (if neg then !decide (c ∈ z) else decide (c ∈ z))) h
  | x, y => match D.py h 50 x, (seqOf h y).bind (allM (D.py h 49)) with
    | some a, some bs => .ok (.bl (if neg then !(bs.any fun z => PyData.eqv z a) else bs.any fun z => PyData.eqv z a)) h
    | _, _ => .no
def dIsN (neg : Bool) : D → D → IH → R D := fun x y h => match y with
  | .non => match x with
    | .non => .ok (.bl (!neg)) h
    | _ => .ok (.bl neg) h
  | .bl b => match x with
    | .bl a => .ok (.bl (if neg then !decide (a = b) else decide (a = b))) h
    | _ => .no
  | _ => .no
section
variable {X : Cx} {G : Cf} {W : WX} {a b c e : Expr} {ma mb mc : ME} {pos : Pos}
theorem dEq_ok (hK : X.K = G.K) : OpS G (rEqP X.K) (dEq false) := by
  intro et H h x y v w W Q rx ry R p
  unfold dEq at p
  split at p
  · rename_i d1 d2 e1 e2
    obtain ⟨a1, a2, a3⟩ := py_ok R 50 x v d1 e1 rx
    obtain ⟨b1, b2, b3⟩ := py_ok R 50 y w d2 e2 ry
    rw [hK]
    exact ⟨d1, d2, a1, b1, a2, b2, a3, p.here R _ (by simp)⟩
  · exact p.elim
theorem dNe_ok (hK : X.K = G.K) : OpS G (rNeP X.K) (dEq true) := by
  intro et H h x y v w W Q rx ry R p
  unfold dEq at p
  split at p
  · rename_i d1 d2 e1 e2
    obtain ⟨a1, a2, a3⟩ := py_ok R 50 x v d1 e1 rx
    obtain ⟨b1, b2, b3⟩ := py_ok R 50 y w d2 e2 ry
    rw [hK]
    exact ⟨d1, d2, a1, b1, a2, b2, a3, p.here R _ (by simp)⟩
  · exact p.elim
def rInA (K : PySem.W.Frag) (neg : Bool) : R2 := fun x y H Q => (∃ (c : Nat) (z : Str), x = .str ⟨#[c]⟩ ∧ y = .str z ∧ Q (.bl (if neg then !decide (c ∈ z.cps.toList) else decide (c ∈ z.cps.toList))) H) ∨ rInP K neg x y H Q
theorem op_inA (hu : X.A.units + 64 < cLine) : OpR X (compareOp .In) (rInA X.K false) := by
  intro pins s σ H x y v u Q I rx ry h
  rcases h with ⟨c, z, h1, h2, q⟩ | h
  · exact op_in_sign pins s σ H x y v u Q I rx ry ⟨c, z, h1, h2, by simpa using q⟩
  · exact op_inP hu pins s σ H x y v u Q I rx ry h
theorem op_notInA (hu : X.A.units + 64 < cLine) : OpR X (compareOp .NotIn) (rInA X.K true) := by
  intro pins s σ H x y v u Q I rx ry h
  rcases h with ⟨c, z, h1, h2, q⟩ | h
  · exact op_notIn_sign pins s σ H x y v u Q I rx ry ⟨c, z, h1, h2, by simpa using q⟩
  · exact op_notInP hu pins s σ H x y v u Q I rx ry h
theorem dIn_ok (hK : X.K = G.K) (neg : Bool) : OpS G (rInA X.K neg) (dIn neg) := by
  intro et H h x y v w W Q rx ry R p
  unfold dIn at p
  split at p
  · rename_i c z
    refine .inl ⟨c, strV z, den_str.mp rx, den_str.mp ry, ?_⟩
    have h1 : decide (c ∈ (strV z).cps.toList) = decide (c ∈ z) := decide_eq_decide.mpr (by simp [strV])
    rw [h1]
    exact p.here R _ (by simp)
  · split at p
    · rename_i d es e1 e2
      obtain ⟨a1, a2, a3⟩ := py_ok R 50 x v d e1 rx
      simp only [Option.bind_eq_some_iff] at e2
      obtain ⟨ds, e3, e4⟩ := e2
      obtain ⟨q, vs, rfl, s1, s2⟩ := seq_ok R e3 ry
      obtain ⟨b1, b2, b3⟩ := py_all R (py_ok R 49) ds vs es e4 s2
      rw [hK]
      refine .inr ⟨d, es, a1, ?_, a2, b2, a3, p.here R _ (by simp)⟩
      rcases s1 with s1 | s1
      · exact .inl (.lst s1 b1)
      · exact .inr (.tup s1 b1)
    · exact p.elim
theorem op_isA : OpR X (compareOp .Is) (fun x y H Q => (y = .non ∧ Q (.bl (decide (x = .non))) H) ∨ rIsB x y H Q) := OpR.or op_isN op_isBl
theorem op_isnotA : OpR X (compareOp .IsNot) (fun x y H Q => (y = .non ∧ Q (.bl (!decide (x = .non))) H) ∨ rNotB x y H Q) := OpR.or op_notN op_notBl
theorem den_nn {et : List Addr} {H : Hp} {x : D} {v : V} (n : x ≠ .non) (r : Den G et H x v) : v ≠ .non := by
  cases x with
  | non => exact absurd rfl n
  | bl b => rw [den_bl.mp r]; exact fun z => nomatch z
  | int b => rw [den_int.mp r]; exact fun z => nomatch z
  | str b => rw [den_str.mp r]; exact fun z => nomatch z
  | tup l => obtain ⟨a, vs, e, _⟩ := den_tup.mp r; rw [e]; exact fun z => nomatch z
  | ref n => obtain ⟨a, _, e⟩ := den_ref.mp r; rw [e]; exact fun z => nomatch z
  | exc a => rw [show v = .ref a by simpa [Den] using r]; exact fun z => nomatch z
  | fl l => obtain ⟨a, vs, e, _⟩ := den_fl.mp r; rw [e]; exact fun z => nomatch z
  | fd ks l => obtain ⟨a, vs, e, _⟩ := den_fd.mp r; rw [e]; exact fun z => nomatch z
theorem dIs_ok : OpS G (fun x y H Q => (y = .non ∧ Q (.bl (decide (x = .non))) H) ∨ rIsB x y H Q) (dIsN false) := by
  intro et H h x y v w W Q rx ry R p
  unfold dIsN at p
  split at p
  · split at p
    · refine .inl ⟨den_non.mp ry, ?_⟩
      exact p.here R _ (by simp [den_non.mp rx])
    · rename_i hn
      refine .inl ⟨den_non.mp ry, ?_⟩
      exact p.here R _ (by simpa using den_nn hn rx)
  · split at p
    · exact .inr ⟨_, _, den_bl.mp rx, den_bl.mp ry, p.here R _ (by simp)⟩
    · exact p.elim
  · exact p.elim
theorem dIsnot_ok : OpS G (fun x y H Q => (y = .non ∧ Q (.bl (!decide (x = .non))) H) ∨ rNotB x y H Q) (dIsN true) := by
  intro et H h x y v w W Q rx ry R p
  unfold dIsN at p
  split at p
  · split at p
    · refine .inl ⟨den_non.mp ry, ?_⟩
      exact p.here R _ (by simp [den_non.mp rx])
    · rename_i hn
      refine .inl ⟨den_non.mp ry, ?_⟩
      exact p.here R _ (by simpa using den_nn hn rx)
  · split at p
    · exact .inr ⟨_, _, den_bl.mp rx, den_bl.mp ry, p.here R _ (by simp)⟩
    · exact p.elim
  · exact p.elim
end
end NR

set_option Elab.async false
set_option linter.all false
set_option maxRecDepth 100000
/-! Tests, calls, statements. -/
namespace NR
open PySem PySem.Spec PyProof.Rows L2

/-! ### truth, tests -/
def truD (h : IH) : D → Option Bool
  | .non => some false
  | .bl b => some b
  | .int i => some (i != 0)
  | .str s => if s.length ≤ 10000000 then some ((s.length : Int) != 0) else none
  | .tup l => some (!l.isEmpty)
  | .fl l => some (!l.isEmpty)
  | .ref n => match h[n]? with
    | some (.lst xs) => some (!xs.isEmpty)
    | some (.frz xs) => some (!xs.isEmpty)
    | some (.dk kvs) => some (!kvs.isEmpty)
    | _ => none
  | _ => none
theorem empty_iff {G : Cf} {et : List Addr} {H : Hp} {xs : List D} {vs : List V} (r : DenL G et H xs vs) : xs.isEmpty = vs.isEmpty := by
  have := r.len
  cases xs <;> cases vs <;> simp at this ⊢
theorem tru_okD {G : Cf} {et : List Addr} {H : Hp} {h : IH} (R : HRel G et h H) {d : D} {v : V} {b : Bool} (e : truD h d = some b) (r : Den G et H d v) : TruV G.K v H b := by
  cases d with
  | non => rw [den_non.mp r]; simp only [truD, Option.some.injEq] at e; exact e.symm
  | bl c => rw [den_bl.mp r]; simp only [truD, Option.some.injEq] at e; exact e.symm
  | int c => rw [den_int.mp r]; simp only [truD, Option.some.injEq] at e; exact e.symm
  | str s =>
    rw [den_str.mp r]
    simp only [truD] at e
    split at e
    · rename_i c
      cases e
      exact ⟨by rw [strV_length]; exact sz c, by rw [strV_length]⟩
    · cases e
  | tup l =>
    obtain ⟨a, vs, rfl, h1, h2⟩ := den_tup.mp r
    simp only [truD, Option.some.injEq] at e
    exact .inr (.inl ⟨vs, h1, by rw [← e, empty_iff h2]⟩)
  | ref n =>
    obtain ⟨a, h1, rfl⟩ := den_ref.mp r
    simp only [truD] at e
    split at e
    · rename_i xs hx
      cases e
      obtain ⟨vs, h2, h3⟩ := R.cell n _ a hx h1
      exact .inl ⟨vs, SqL.of h2, by rw [empty_iff h3]⟩
    · rename_i xs hx
      cases e
      obtain ⟨vs, h2, h3⟩ := R.cell n _ a hx h1
      exact .inl ⟨vs, h2.sq, by rw [empty_iff h3]⟩
    · rename_i kvs hx
      cases e
      obtain ⟨ws, h2, h3, h4⟩ := R.cell n _ a hx h1
      refine .inr (.inr ⟨ws, h2, ?_⟩)
      have := congrArg List.length h3
      simp at this
      cases kvs <;> cases ws <;> simp at this ⊢
    · cases e
  | fl l =>
    obtain ⟨a, vs, rfl, h1, h2⟩ := den_fl.mp r
    simp only [truD, Option.some.injEq] at e
    exact .inl ⟨vs, h1.sq, by rw [← e, empty_iff h2]⟩
  | fd ks l => simp [truD] at e
  | exc a => simp [truD] at e
def R.ofO {A : Type} (o : Option A) (h : IH) : R A := match o with
  | some a => .ok a h
  | none => .no
def mTr (m : ME) : MT := fun env h => (m env h).bind fun d h1 => R.ofO (truD h1 d) h1
def mTb (m : ME) : MT := fun env h => (m env h).bind fun d h1 => R.ofO d.bl? h1
def mAnd (a b : MT) : MT := fun env h => (a env h).bind fun c h1 => if c = true then b env h1 else .ok false h1
def mOr (a b : MT) : MT := fun env h => (a env h).bind fun c h1 => if c = true then .ok true h1 else b env h1
def mNot (a : MT) : MT := fun env h => (a env h).bind fun c h1 => .ok (!c) h1
def mAndV (a b : ME) : ME := fun env h => (a env h).bind fun x h1 => match x with
  | .bl true => b env h1
  | .bl false => .ok (.bl false) h1
  | _ => .no
def mOrV (a b : ME) : ME := fun env h => (a env h).bind fun x h1 => match x with
  | .bl true => .ok (.bl true) h1
  | .bl false => b env h1
  | _ => .no
def mNotV (a : ME) : ME := fun env h => (a env h).bind fun x h1 => match x with
  | .bl b => .ok (.bl (!b)) h1
  | _ => .no
def mIf (t : MT) (a b : ME) : ME := fun env h => (t env h).bind fun c h1 => if c = true then a env h1 else b env h1
def mChain (f g : D → D → IH → R D) (a b c : ME) : ME := fun env h => (a env h).bind fun x h1 => (b env h1).bind fun y h2 => (f x y h2).bind fun z h3 => match z with
  | .bl true => (c env h3).bind fun w h4 => g y w h4
  | .bl false => .ok (.bl false) h3
  | _ => .no
section
variable {X : Cx} {G : Cf} {W : WX} {a b c e : Expr} {ma mb mc : ME} {ta tb : MT} {pos : Pos} {rest : List Expr} {r r' : R2} {f g : D → D → IH → R D}
theorem mt_val (hK : X.K = G.K) (h : PE X a (tE G W ma)) (he : ∀ whole, isTrue a X.env whole = (do let v ← whole; standAt a.pos; holding [v] (truthy v)) := by intro _; rfl) : PT X a (tT G W (mTr ma)) :=
  PT.imp (pt_truth h he) fun σ H Q ⟨et, env, h, hE, hH, hP⟩ => by
    refine ⟨et, env, h, hE, hH, (Pst.of_bind hP).imp fun et1 H1 h1 d p e hr q v hv => ?_⟩
    cases ht : truD h1 d with
    | none => simp only [ht, R.ofO] at q; exact q.elim
    | some k =>
      simp only [ht, R.ofO] at q
      rw [hK]
      exact ⟨k, tru_okD hr ht hv, q.here hr⟩
theorem mt_cmp {op : CmpOp} (ho : OpR X (compareOp op) r) (hs : OpS G r f) (ha : PE X a (tE G W ma)) (hb : PE X b (tE G W mb)) (hm : behindInMarks op b = false := by first | exact nomark _ | rfl) : PT X (.Compare a [op] [b] pos) (tT G W (mTb (mOp f ma mb))) :=
  PT.imp (pt_cmpR ho ha hb hm) fun σ H Q ⟨et, env, h, hE, hH, hP⟩ => by
    refine tOp_of hs ⟨et, env, h, hE, hH, (Pst.of_bind hP).imp fun et1 H1 h1 d p e hr q v hv => ?_⟩
    cases d with
    | bl k => exact ⟨k, den_bl.mp hv, q.here hr⟩
    | _ => exact q.elim
theorem tChain_of {σ : L2.St} {H : Hp} {Q : VK} (hs : OpS G r f) (hs' : OpS G r' g) (x : tE G W (mChain f g ma mb mc) σ H Q) : tChain r r' (tE G W ma) (tE G W mb) (tE G W mc) σ H Q := by
  obtain ⟨et, env, h, hE, hH, hP⟩ := x
  refine ⟨et, env, h, hE, hH, (Pst.of_bind hP).imp fun et1 H1 h1 x p e hr q v hv => ?_⟩
  refine ⟨et1, env, h1, hE.mono p e, hr, (Pst.of_bind q).imp fun et2 H2 h2 y p2 e2 hr2 q2 w hw => ?_⟩
  refine hs et2 H2 h2 x y v w _ _ (hv.mono p2 e2) hw hr2 ((Pst.of_bind q2).imp fun et3 H3 h3 z p3 e3 hr3 q3 vz hz => ?_)
  cases z with
  | bl k =>
    refine ⟨k, den_bl.mp hz, ?_⟩
    cases k with
    | true =>
      rw [if_pos rfl]
      refine ⟨et3, env, h3, ((hE.mono p e).mono p2 e2).mono p3 e3, hr3, (Pst.of_bind q3).imp fun et4 H4 h4 u p4 e4 hr4 q4 vu hu => ?_⟩
      exact hs' et4 H4 h4 y u w vu _ Q ((hw.mono p3 e3).mono p4 e4) hu hr4 q4
    | false =>
      rw [if_neg Bool.false_ne_true]
      exact q3.here hr3 _ (by simp)
  | _ => exact q3.elim
theorem me_chain {op op' : CmpOp} (ho : OpR X (compareOp op) r) (hs : OpS G r f) (ho' : OpR X (compareOp op') r') (hs' : OpS G r' g) (ha : PE X a (tE G W ma)) (hb : PE X b (tE G W mb)) (hc : PE X c (tE G W mc)) (hm : lastMarks [op, op'] [b, c] = false := by rfl) :
    PE X (.Compare a [op, op'] [b, c] pos) (tE G W (mChain f g ma mb mc)) := PE.imp (pe_chain ho ho' ha hb hc hm) fun _ _ _ x => tChain_of hs hs' x
theorem mt_chain {op op' : CmpOp} (ho : OpR X (compareOp op) r) (hs : OpS G r f) (ho' : OpR X (compareOp op') r') (hs' : OpS G r' g) (ha : PE X a (tE G W ma)) (hb : PE X b (tE G W mb)) (hc : PE X c (tE G W mc)) (hm : lastMarks [op, op'] [b, c] = false := by rfl) :
    PT X (.Compare a [op, op'] [b, c] pos) (tT G W (mTb (mChain f g ma mb mc))) := PT.imp (pt_chain ho ho' ha hb hc hm) fun σ H Q ⟨et, env, h, hE, hH, hP⟩ => by
    refine tChain_of hs hs' ⟨et, env, h, hE, hH, (Pst.of_bind hP).imp fun et1 H1 h1 d p e hr q v hv => ?_⟩
    cases d with
    | bl k => exact ⟨k, den_bl.mp hv, q.here hr⟩
    | _ => exact q.elim
theorem tAnd_of {σ : L2.St} {H : Hp} {Q : Bool → Hp → Prop} (x : tT G W (mAnd ta tb) σ H Q) : tAnd (tT G W ta) (tT G W tb) σ H Q := by
  obtain ⟨et, env, h, hE, hH, hP⟩ := x
  refine ⟨et, env, h, hE, hH, (Pst.of_bind hP).imp fun et1 H1 h1 k p e hr q => ?_⟩
  cases k with
  | true =>
    rw [if_pos rfl] at q ⊢
    exact ⟨et1, env, h1, hE.mono p e, hr, q⟩
  | false =>
    rw [if_neg Bool.false_ne_true] at q ⊢
    exact q.here hr
theorem tOr_of {σ : L2.St} {H : Hp} {Q : Bool → Hp → Prop} (x : tT G W (mOr ta tb) σ H Q) : tOr (tT G W ta) (tT G W tb) σ H Q := by
  obtain ⟨et, env, h, hE, hH, hP⟩ := x
  refine ⟨et, env, h, hE, hH, (Pst.of_bind hP).imp fun et1 H1 h1 k p e hr q => ?_⟩
  cases k with
  | true =>
    rw [if_pos rfl] at q ⊢
    exact q.here hr
  | false =>
    rw [if_neg Bool.false_ne_true] at q ⊢
    exact ⟨et1, env, h1, hE.mono p e, hr, q⟩
theorem mw_and1 (ha : PT X a (tT G W ta)) : PW X (.BoolOp .And [a] pos) (tT G W ta) := pw_and1 ha
theorem mw_or1 (ha : PT X a (tT G W ta)) : PW X (.BoolOp .Or [a] pos) (tT G W ta) := pw_or1 ha
theorem mw_and (ha : PT X a (tT G W ta)) (hb : PW X (.BoolOp .And (b :: rest) pos) (tT G W tb)) : PW X (.BoolOp .And (a :: b :: rest) pos) (tT G W (mAnd ta tb)) := PW.imp (pw_and ha hb) fun _ _ _ x => tAnd_of x
theorem mw_or (ha : PT X a (tT G W ta)) (hb : PW X (.BoolOp .Or (b :: rest) pos) (tT G W tb)) : PW X (.BoolOp .Or (a :: b :: rest) pos) (tT G W (mOr ta tb)) := PW.imp (pw_or ha hb) fun _ _ _ x => tOr_of x
theorem mt_not (ha : PT X a (tT G W ta)) : PT X (.UnaryOp .Not a pos) (tT G W (mNot ta)) := PT.imp (pt_not ha) fun σ H Q ⟨et, env, h, hE, hH, hP⟩ =>
  ⟨et, env, h, hE, hH, (Pst.of_bind hP).imp fun et1 H1 h1 k p e hr q => q.here hr⟩
theorem me_one {op} (h : PE X a (tE G W ma)) : PE X (.BoolOp op [a] pos) (tE G W ma) := pe_one h
theorem me_and (ha : PE X a (tE G W ma)) (hb : PE X (.BoolOp .And (b :: rest) pos) (tE G W mb)) : PE X (.BoolOp .And (a :: b :: rest) pos) (tE G W (mAndV ma mb)) := PE.imp (pe_and ha hb) fun σ H Q ⟨et, env, h, hE, hH, hP⟩ => by
  refine ⟨et, env, h, hE, hH, (Pst.of_bind hP).imp fun et1 H1 h1 d p e hr q v hv => ?_⟩
  cases d with
  | bl k =>
    refine ⟨k, den_bl.mp hv, ?_⟩
    cases k with
    | true => rw [if_pos rfl]; exact ⟨et1, env, h1, hE.mono p e, hr, q⟩
    | false => rw [if_neg Bool.false_ne_true]; exact q.here hr _ (by simp)
  | _ => exact q.elim
theorem me_or (ha : PE X a (tE G W ma)) (hb : PE X (.BoolOp .Or (b :: rest) pos) (tE G W mb)) : PE X (.BoolOp .Or (a :: b :: rest) pos) (tE G W (mOrV ma mb)) := PE.imp (pe_or ha hb) fun σ H Q ⟨et, env, h, hE, hH, hP⟩ => by
  refine ⟨et, env, h, hE, hH, (Pst.of_bind hP).imp fun et1 H1 h1 d p e hr q v hv => ?_⟩
  cases d with
  | bl k =>
    refine ⟨k, den_bl.mp hv, ?_⟩
    cases k with
    | true => rw [if_pos rfl]; exact q.here hr _ (by simp)
    | false => rw [if_neg Bool.false_ne_true]; exact ⟨et1, env, h1, hE.mono p e, hr, q⟩
  | _ => exact q.elim
theorem me_not (ha : PE X a (tE G W ma)) : PE X (.UnaryOp .Not a pos) (tE G W (mNotV ma)) := PE.imp (pe_not ha) fun σ H Q ⟨et, env, h, hE, hH, hP⟩ => by
  refine ⟨et, env, h, hE, hH, (Pst.of_bind hP).imp fun et1 H1 h1 d p e hr q v hv => ?_⟩
  cases d with
  | bl k => exact ⟨k, den_bl.mp hv, q.here hr _ (by simp)⟩
  | _ => exact q.elim
theorem me_ifExp (hc : PT X c (tT G W ta)) (ha : PE X a (tE G W ma)) (hb : PE X b (tE G W mb)) : PE X (.IfExp c a b pos) (tE G W (mIf ta ma mb)) := PE.imp (pe_ifExp hc ha hb) fun σ H Q ⟨et, env, h, hE, hH, hP⟩ => by
  refine ⟨et, env, h, hE, hH, (Pst.of_bind hP).imp fun et1 H1 h1 k p e hr q => ?_⟩
  cases k with
  | true => rw [if_pos rfl] at q ⊢; exact ⟨et1, env, h1, hE.mono p e, hr, q⟩
  | false => rw [if_neg Bool.false_ne_true] at q ⊢; exact ⟨et1, env, h1, hE.mono p e, hr, q⟩
def mNeg (a : ME) : ME := fun env h => (a env h).bind fun x h1 => match x with
  | .int i => .ok (.int (-i)) h1
  | _ => .no
theorem me_neg (ha : PE X a (tE G W ma)) : PE X (.UnaryOp .USub a pos) (tE G W (mNeg ma)) := PE.imp (pe_un un_neg ha) fun σ H Q ⟨et, env, h, hE, hH, hP⟩ => by
  refine ⟨et, env, h, hE, hH, (Pst.of_bind hP).imp fun et1 H1 h1 d p e hr q v hv => ?_⟩
  cases d with
  | int k => exact ⟨k, den_int.mp hv, q.here hr _ (by simp)⟩
  | _ => exact q.elim
end

/-! ### arguments, displays -/
def mNil : MA := fun _ h => .ok [] h
def mCons (a : ME) (t : MA) : MA := fun env h => (a env h).bind fun x h1 => (t env h1).bind fun xs h2 => .ok (x :: xs) h2
def mTup (t : MA) : ME := fun env h => (t env h).bind fun xs h1 => if xs.length ≤ 10000000 then .ok (.tup xs) h1 else .no
def mLst (t : MA) : ME := fun env h => (t env h).bind fun xs h1 => if xs.length ≤ 10000000 then .ok (.ref h1.length) (h1 ++ [.lst xs]) else .no
section
variable {X : Cx} {G : Cf} {W : WX} {a b c e : Expr} {es : List Expr} {ma mb mc : ME} {mt : MA} {pos : Pos}
theorem ma_nil : PA X [] (tA G W mNil) := PA.imp pa_nil fun σ H Q ⟨et, env, h, hE, hH, hP⟩ => hP.here hH [] (by simp)
theorem ma_cons (he : PE X e (tE G W ma)) (h : PA X es (tA G W mt)) (hs : starEach (e :: es) X.env = (false, eval e X.env) :: starEach es X.env := by rfl) : PA X (e :: es) (tA G W (mCons ma mt)) := PA.imp (pa_cons he h hs) fun σ H Q ⟨et, env, h, hE, hH, hP⟩ => by
  refine ⟨et, env, h, hE, hH, (Pst.of_bind hP).imp fun et1 H1 h1 x p e hr q v hv => ?_⟩
  refine ⟨et1, env, h1, hE.mono p e, hr, (Pst.of_bind q).imp fun et2 H2 h2 xs p2 e2 hr2 q2 ws hw => ?_⟩
  exact q2.here hr2 _ (denL_cons.mpr ⟨v, ws, rfl, hv.mono p2 e2, hw⟩)
theorem me_tup {k : Nat} (h : PA X es (tA G W mt)) : PE X (.Tuple es k pos) (tE G W (mTup mt)) := PE.imp (pe_tup h) fun σ H Q ⟨et, env, h, hE, hH, hP⟩ => by
  refine ⟨et, env, h, hE, hH, (Pst.of_bind hP).imp fun et1 H1 h1 xs p e hr q vs hv => ?_⟩
  split at q
  · rename_i l
    exact ⟨sz (by rw [hv.len]; exact l), q.newT hr hv⟩
  · exact q.elim
theorem me_lst (h : PA X es (tA G W mt)) : PE X (.List es pos) (tE G W (mLst mt)) := PE.imp (pe_lst h) fun σ H Q ⟨et, env, h, hE, hH, hP⟩ => by
  refine ⟨et, env, h, hE, hH, (Pst.of_bind hP).imp fun et1 H1 h1 xs p e hr q vs hv => ?_⟩
  split at q
  · rename_i l
    exact ⟨sz (by rw [hv.len]; exact l), q.newL hr hv⟩
  · exact q.elim
end

/-! ### defs and their calls -/
def FSp (G : Cf) (n : Nat) (fm : MF) : Sp := fun vs H Q E => vs.length = n ∧ ∃ et ds h, DenL G et H ds vs ∧ HRel G et h H ∧
  Pst G et H (fm ds h) (fun et' H' _ d => ∀ v, Den G et' H' d v → Q v H') E
/-- the old cells are as they were, or tell of old cells alone -/
def okB (k : Nat) : IH → IH → Prop
  | [], _ => True
  | c :: cs, c' :: cs' => (c' = c ∨ Cell.lo k c' = true) ∧ okB k cs cs'
  | _ :: _, [] => False
def xfLo (n : Nat) : XF → Bool
  | none => true
  | some fs => D.loL n (fs.map (·.2))
open Classical in
noncomputable def clean (h : IH) (r : R D) : R D := match r with
  | .ok d h' => if d.lo h.length = true ∧ okB h.length h h' then .ok d (h'.take h.length) else .ok d h'
  | .ex c d h' => if xfLo h.length d = true ∧ okB h.length h h' then .ex c d (h'.take h.length) else .ex c d h'
  | .no => .no
theorem okB_get {k : Nat} : ∀ {h h' : IH} {n : Nat} {c : Cell}, okB k h h' → n < h.length → h'[n]? = some c → h[n]? = some c ∨ Cell.lo k c = true
  | [], _, n, _, _, l, _ => absurd l (Nat.not_lt_zero n)
  | _ :: _, [], _, _, o, _, _ => o.elim
  | c :: cs, c' :: cs', 0, d, o, _, e => by
    simp at e
    subst e
    rcases o.1 with h | h
    · exact .inl (by simp [h])
    · exact .inr h
  | c :: cs, c' :: cs', n + 1, d, o, l, e => by
    have := okB_get o.2 (n := n) (by simpa using l) (by simpa using e)
    simpa using this
theorem okB_len {k : Nat} : ∀ {h h' : IH}, okB k h h' → h.length ≤ h'.length
  | [], _, _ => Nat.zero_le _
  | _ :: _, [], o => o.elim
  | c :: cs, c' :: cs', o => by have := okB_len o.2; simp; omega
theorem HRel.lo {G : Cf} {et : List Addr} {h : IH} {H : Hp} (R : HRel G et h H) {n : Nat} {c : Cell} (e : h[n]? = some c) : Cell.lo et.length c = true := by
  obtain ⟨a, ha⟩ := R.addr e
  exact (R.cell n c a e ha).lo
theorem okB_all {G : Cf} {et : List Addr} {h h' : IH} {H : Hp} (R : HRel G et h H) (o : okB h.length h h') : (h'.take et.length).all (Cell.lo et.length) = true := by
  rw [List.all_eq_true]
  intro c hc
  obtain ⟨n, hn⟩ := List.mem_iff_getElem?.mp hc
  have hl : n < et.length := by
    have := (List.getElem?_eq_some_iff.mp hn).1
    rw [List.length_take] at this
    omega
  rw [List.getElem?_take_of_lt hl] at hn
  rw [R.len] at hl ⊢
  rcases okB_get o hl hn with h1 | h1
  · have := R.lo h1
    rw [R.len] at this
    exact this
  · exact h1
theorem HRel.cut {G : Cf} {et et' : List Addr} {h' : IH} {H : Hp} (p : et <+: et') (R : HRel G et' h' H) (c : (h'.take et.length).all (Cell.lo et.length) = true) : HRel G et (h'.take et.length) H := by
  obtain ⟨t, rfl⟩ := p
  have lt : ∀ {n : Nat} {c : Cell}, (h'.take et.length)[n]? = some c → n < et.length ∧ h'[n]? = some c := fun {n c} e => by
    by_cases hn : n < et.length
    · rw [List.getElem?_take_of_lt hn] at e
      exact ⟨hn, e⟩
    · rw [List.getElem?_eq_none (by rw [List.length_take]; omega)] at e
      cases e
  have al : ∀ {n : Nat} {a : Addr}, et[n]? = some a → (et ++ t)[n]? = some a := fun {n a} e => by
    rw [List.getElem?_append_left (List.getElem?_eq_some_iff.mp e).1]
    exact e
  refine ⟨?_, fun n m c1 c2 a h1 h2 h3 h4 f1 f2 => R.nd n m c1 c2 a (lt h1).2 (lt h2).2 (al h3) (al h4) f1 f2, fun n c1 a h1 h2 => ?_⟩
  · have := R.len
    rw [List.length_append] at this
    rw [List.length_take]
    omega
  · have hm : c1 ∈ h'.take et.length := List.mem_of_getElem? h1
    exact (R.cell n c1 a (lt h1).2 (al h2)).back (List.prefix_append _ _) (List.all_eq_true.mp c c1 hm)
theorem Pst.cleaned {G : Cf} {et : List Addr} {H : Hp} {h : IH} {r : R D} {Q : VK} {W : Value → Option Addr → Hp → Prop} (R : HRel G et h H) (x : Pst G et H (clean h r) (fun et' H' _ d => ∀ v, Den G et' H' d v → Q v H') W) :
    Pst G et H r (fun et' H' _ d => ∀ v, Den G et' H' d v → Q v H') W := by
  cases r with
  | no => exact x
  | ok d h' =>
    simp only [clean] at x
    split at x
    · rename_i c
      intro et' H' p e hr v hv
      have al := okB_all R c.2
      have c1 := c.1
      rw [← R.len] at c1 x
      exact x et H' List.prefix_rfl e (hr.cut p al) v (hv.back p c1)
    · exact x
  | ex c d h' =>
    simp only [clean] at x
    split at x
    · rename_i c
      intro et' H' cls dd p e hr hx
      have al := okB_all R c.2
      have c1 := c.1
      rw [← R.len] at c1 x
      refine x et H' cls dd List.prefix_rfl e (hr.cut p al) ⟨hx.1, ?_⟩
      have h2 := hx.2
      cases d with
      | none => exact h2
      | some fs =>
        obtain ⟨a, ws, q1, q2, q3, q4⟩ := h2
        exact ⟨a, ws, q1, q2, q3, q4.back p c1⟩
    · exact x
noncomputable def callC (n : Nat) (fm : MF) (ds : List D) (h : IH) : R D := if ds.length = n then clean h (fm ds h) else .no
noncomputable def mCall (n : Nat) (fm : MF) (a : MA) : ME := fun env h => (a env h).bind fun ds h1 => callC n fm ds h1
section
variable {X : Cx} {G : Cf} {W : WX} {k n : Nat} {f : Addr} {fd : FuncData} {ps : List Str} {fm : MF} {x : Str} {p pos : Pos} {e : Expr} {es : List Expr} {mt : MA}
theorem FSp.of_call {ds : List D} {vs : List V} {et : List Addr} {H : Hp} {h : IH} {Q : VK} {W0 : XK} (hv : DenL G et H ds vs) (hr : HRel G et h H) (q : Pst G et H (callC n fm ds h) (fun et' H' _ d => ∀ v, Den G et' H' d v → Q v H') W0) : FSp G n fm vs H Q W0 := by
  unfold callC at q
  split at q
  · rename_i l
    exact ⟨by rw [hv.len]; exact l, et, ds, h, hv, hr, q.cleaned hr⟩
  · exact q.elim
theorem me_call (F : FnOk X.prog X.w X.K X.mg X.base (L2.CX X.prog X.w) k f fd ps (FSp G n fm)) (hr : Room k X.A) (hm : X.mg x = some (.ref f)) (hk : PySem.W.keepIn X.K (.ref f) = true) (hb : Binds X.K fd ps []) (tk : Takes X W)
    (ha : PA X (e :: es) (tA G W mt)) (hg : Gl X x := by rfl) (hdb : (x == ("__debug__" : Str)) = false := by decide) (he : starEach (e :: es) X.env = (false, eval e X.env) :: starEach es X.env := by rfl) (hpl : (backTo pos (starEach es X.env)).any (·.1) = false := by rfl) :
    PE X (.Call (.Name x p) (e :: es) [] pos) (tE G W (mCall n fm mt)) := PE.imp (pe_callS F hr hg hm hk hb (passAt tk) ha hdb he hpl) fun σ H Q ⟨et, env, h, hE, hH, hP⟩ =>
  ⟨et, env, h, hE, hH, (Pst.of_bind hP).imp fun et1 H1 h1 ds p e hr q vs hv => FSp.of_call hv hr q⟩
theorem me_call0 (F : FnOk X.prog X.w X.K X.mg X.base (L2.CX X.prog X.w) k f fd ps (FSp G n fm)) (hr : Room k X.A) (hm : X.mg x = some (.ref f)) (hk : PySem.W.keepIn X.K (.ref f) = true) (hb : Binds X.K fd ps []) (tk : Takes X W)
    (hg : Gl X x := by rfl) (hdb : (x == ("__debug__" : Str)) = false := by decide) : PE X (.Call (.Name x p) [] [] pos) (tE G W (mCall n fm mNil)) := by
  refine ⟨fun pins s σ H Q I ⟨et, env, h, hE, hH, hP⟩ => ?_⟩
  refine wpAny_Call_Name_kw (ld_glob I hg hm ?_ hdb)
  exact PySem.W.callWith_K0 I.kIn hk (run_fnS (us := []) F hr hb (passAt tk σ) I .nil (FSp.of_call (by simp) hH hP))
end

/-! ### statements -/
def RS.fin : RS → R D
  | .nx _ h => .ok .non h
  | .rt d h => .ok d h
  | .ex c d _ h => .ex c d h
  | _ => .no
def fnM (n : Nat) (m : MS) : MF := fun ds h => (m (ds.map some ++ List.replicate (n - ds.length) none) h).fin
theorem EnvR.start {G : Cf} {et : List Addr} {H : Hp} {ds : List D} {vs : List V} (r : DenL G et H ds vs) (N : List Str) : EnvR G et H (ds.map some ++ List.replicate (N.length - ds.length) none) (start N vs) := by
  have hl := r.len
  refine ⟨by unfold L2.start; simp [hl], fun i d e => ?_⟩
  by_cases hi : i < ds.length
  · rw [List.getElem?_append_left (by simpa using hi), List.getElem?_map] at e
    cases h1 : ds[i]? with
    | none => rw [h1] at e; cases e
    | some d' =>
      rw [h1] at e
      cases e
      obtain ⟨v, h2, h3⟩ := r.get h1
      refine ⟨v, ?_, h3⟩
      unfold L2.start
      rw [List.getElem?_append_left (by simp; omega), List.getElem?_map, h2]
      rfl
  · rw [List.getElem?_append_right (by simpa using hi)] at e
    have := List.mem_of_getElem? e
    simp at this
section
variable {P : Program} {w : World} {K : PySem.W.Frag} {mg : Str → Option Value} {base : Heap} {G : Cf}
theorem fnPM {x qual : Str} {st : Stmt} {f : Addr} {fd : FuncData} {N ps : List Str} {k n : Nat} {m : MS} (F : Fun K x qual st f fd) (S : FnScope N ps (defScope st)) (hn : ps.length = n)
    (hb : ∀ (cdv : Value) (A : Around) (outer : List PySem.Env) (s : Shared) (H : Hp) (E : XK), Room k (A.deeper (envOfC qual (defScope st) s.heap.objs.size f cdv)) →
      Takes (cxOf (L2.CX P w) P w K mg base N qual (defScope st) f cdv A outer s H E) (fun c d _ H => E c d H) → PassesOwn (model P w) (cxOf (L2.CX P w) P w K mg base N qual (defScope st) f cdv A outer s H E).A (cxOf (L2.CX P w) P w K mg base N qual (defScope st) f cdv A outer s H E).env (cxOf (L2.CX P w) P w K mg base N qual (defScope st) f cdv A outer s H E).xe →
      PSs (cxOf (L2.CX P w) P w K mg base N qual (defScope st) f cdv A outer s H E) (defBody st) (tS G (fun c d _ H => E c d H) m)) : FnOk P w K mg base (L2.CX P w) (k + 1) f fd ps (FSp G n (fnM N.length m)) := by
  refine F.okX S (fun vs H Q E h => h.1.trans hn.symm) fun cdv A outer s H vs Q E hr ⟨hl, et, ds, h, hv, hH, hP⟩ => ⟨_, hb cdv A outer s H E hr (takes_of rfl rfl rfl rfl) (passes_of rfl), ?_⟩
  refine ⟨et, _, h, EnvR.start hv N, hH, ?_⟩
  unfold fnM at hP
  revert hP
  generalize m (ds.map some ++ List.replicate (N.length - ds.length) none) h = r
  intro hP
  cases r with
  | nx e h1 => exact fun et' H' σ' p ex hr _ => hP et' H' p ex hr _ (by simp)
  | rt d h1 => exact fun et' H' v p ex hr hv => hP et' H' p ex hr v hv
  | ex c d e h1 => exact fun et' H' σ' cls dd p ex hr _ hx => hP et' H' cls dd p ex hr hx
  | bk e h1 => exact hP.elim
  | ct e h1 => exact hP.elim
  | no => exact hP.elim
end
end NR

set_option Elab.async false
set_option linter.all false
set_option maxRecDepth 100000
/-! Statements, loops. -/
namespace NR
open PySem PySem.Spec PyProof.Rows L2

def RS.then (r : RS) (k : EV → IH → RS) : RS := match r with
  | .nx e h => k e h
  | r => r
def msNil : MS := fun env h => .nx env h
def msCons (a b : MS) : MS := fun env h => (a env h).then b
def msRet (m : ME) : MS := fun env h => (m env h).bindS env fun d h1 => .rt d h1
def msRetN : MS := fun _ h => .rt .non h
def msIf (t : MT) (a b : MS) : MS := fun env h => (t env h).bindS env fun c h1 => if c = true then a env h1 else b env h1
def msSet (i : Nat) (m : ME) : MS := fun env h => (m env h).bindS env fun d h1 => .nx (env.set i (some d)) h1
def msExpr (m : ME) : MS := fun env h => (m env h).bindS env fun _ h1 => .nx env h1
def msBreak : MS := fun env h => .bk env h
def msCont : MS := fun env h => .ct env h
def msNo : MS := fun _ _ => .no

section
variable {G : Cf} {et et' : List Addr} {H H' : Hp} {h h' : IH} {env : EV} {σ : L2.St} {D0 : Ends} {W : WX} {A : Type}
/-- behind an expression, a statement goes on -/
theorem PstS.of_bind {r : R A} {k : A → IH → RS} (hE : EnvR G et H env σ) (x : PstS G et H (r.bindS env k) D0 W) :
    Pst G et H r (fun et1 H1 h1 a => PstS G et1 H1 (k a h1) D0 W) (fun c d H' => W c d σ H') := by
  cases r with
  | ok a h1 =>
    intro et1 H1 p e hr
    have y : PstS G et H (k a h1) D0 W := x
    show PstS G et1 H1 (k a h1) D0 W
    cases hk : k a h1 with
    | nx b h2 => rw [hk] at y; exact fun et2 H2 σ' p2 e2 hr2 => y et2 H2 σ' (p.trans p2) (e.trans e2) hr2
    | bk b h2 => rw [hk] at y; exact fun et2 H2 σ' p2 e2 hr2 => y et2 H2 σ' (p.trans p2) (e.trans e2) hr2
    | ct b h2 => rw [hk] at y; exact fun et2 H2 σ' p2 e2 hr2 => y et2 H2 σ' (p.trans p2) (e.trans e2) hr2
    | rt b h2 => rw [hk] at y; exact fun et2 H2 v p2 e2 hr2 => y et2 H2 v (p.trans p2) (e.trans e2) hr2
    | ex c d b h2 => rw [hk] at y; exact fun et2 H2 σ' cls dd p2 e2 hr2 => y et2 H2 σ' cls dd (p.trans p2) (e.trans e2) hr2
    | no => rw [hk] at y; exact y
  | ex c d h1 => exact fun et1 H1 cls dd p e hr hx => x et1 H1 σ cls dd p e hr (hE.mono p e) hx
  | no => exact x
theorem PstS.weak {r : RS} (p : et <+: et') (e : Ext H H') (x : PstS G et H r D0 W) : PstS G et' H' r D0 W := by
  cases r with
  | nx b h2 => exact fun et2 H2 σ' p2 e2 hr2 => x et2 H2 σ' (p.trans p2) (e.trans e2) hr2
  | bk b h2 => exact fun et2 H2 σ' p2 e2 hr2 => x et2 H2 σ' (p.trans p2) (e.trans e2) hr2
  | ct b h2 => exact fun et2 H2 σ' p2 e2 hr2 => x et2 H2 σ' (p.trans p2) (e.trans e2) hr2
  | rt b h2 => exact fun et2 H2 v p2 e2 hr2 => x et2 H2 v (p.trans p2) (e.trans e2) hr2
  | ex c d b h2 => exact fun et2 H2 σ' cls dd p2 e2 hr2 => x et2 H2 σ' cls dd (p.trans p2) (e.trans e2) hr2
  | no => exact x
end

section
variable {X : Cx} {G : Cf} {W : WX} {st : Stmt} {rest : List Stmt} {a b : MS} {e c : Expr} {me : ME} {mt : MT} {pos : Pos}
theorem mss_nil : PSs X [] (tS G W msNil) := PSs.imp pss_nil fun D σ H ⟨et, env, h, hE, hH, hP⟩ => hP et H σ List.prefix_rfl (Ext.refl H) hH hE
theorem mss_cons (h1 : PS X st (tS G W a)) (h2 : PSs X rest (tS G W b)) : PSs X (st :: rest) (tS G W (msCons a b)) := PSs.imp (pss_cons h1 h2) fun D σ H ⟨et, env, h, hE, hH, hP⟩ => by
  refine ⟨et, env, h, hE, hH, ?_⟩
  unfold msCons at hP
  revert hP
  generalize a env h = r
  intro hP
  cases r with
  | nx e1 h1 => exact fun et' H' σ' p e hr hE' => ⟨et', e1, h1, hE', hr, PstS.weak p e hP⟩
  | bk b h2 => exact hP
  | ct b h2 => exact hP
  | rt b h2 => exact hP
  | ex c d b h2 => exact hP
  | no => exact hP
theorem mss_one (h1 : PS X st (tS G W a)) : PSs X [st] (tS G W a) := pss_one h1
theorem ms_pass : PS X (.Pass pos) (tS G W msNil) := PS.imp ps_pass fun D σ H ⟨et, env, h, hE, hH, hP⟩ => hP et H σ List.prefix_rfl (Ext.refl H) hH hE
theorem ms_doc {x : Str} {j : Nat} {pos' : Pos} : PS X (.Expr (.Constant (.str x) j pos) pos') (tS G W msNil) := PS.imp ps_doc fun D σ H ⟨et, env, h, hE, hH, hP⟩ => hP et H σ List.prefix_rfl (Ext.refl H) hH hE
theorem ms_break : PS X (.Break pos) (tS G W msBreak) := PS.imp ps_break fun D σ H ⟨et, env, h, hE, hH, hP⟩ => hP et H σ List.prefix_rfl (Ext.refl H) hH hE
theorem ms_continue : PS X (.Continue pos) (tS G W msCont) := PS.imp ps_continue fun D σ H ⟨et, env, h, hE, hH, hP⟩ => hP et H σ List.prefix_rfl (Ext.refl H) hH hE
theorem ms_no : PS X st (tS G W msNo) := PS.imp ps_never fun D σ H ⟨et, env, h, hE, hH, hP⟩ => hP
theorem mss_no {sts : List Stmt} : PSs X sts (tS G W msNo) := PSs.imp pss_never fun D σ H ⟨et, env, h, hE, hH, hP⟩ => hP
theorem ms_ret (he : PE X e (tE G W me)) : PS X (.Return (some e) pos) (tS G W (msRet me)) := PS.imp (ps_ret he) fun D σ H ⟨et, env, h, hE, hH, hP⟩ =>
  ⟨et, env, h, hE, hH, (PstS.of_bind hE hP).imp fun et1 H1 h1 d p e hr q v hv => q et1 H1 v List.prefix_rfl (Ext.refl _) hr hv⟩
theorem ms_retN : PS X (.Return none pos) (tS G W msRetN) := PS.imp ps_retN fun D σ H ⟨et, env, h, hE, hH, hP⟩ => hP et H .non List.prefix_rfl (Ext.refl _) hH (by simp)
theorem ms_if {s1 s2 : List Stmt} (hc : PT X c (tT G W mt)) (ha : PSs X s1 (tS G W a)) (hb : PSs X s2 (tS G W b)) : PS X (.If c s1 s2 pos) (tS G W (msIf mt a b)) := PS.imp (ps_if hc ha hb) fun D σ H ⟨et, env, h, hE, hH, hP⟩ => by
  refine ⟨et, env, h, hE, hH, (PstS.of_bind hE hP).imp fun et1 H1 h1 k p e hr q => ?_⟩
  cases k with
  | true => rw [if_pos rfl] at q ⊢; exact ⟨et1, env, h1, hE.mono p e, hr, q⟩
  | false => rw [if_neg Bool.false_ne_true] at q ⊢; exact ⟨et1, env, h1, hE.mono p e, hr, q⟩
theorem ms_set (i : Nat) {x : Str} {pos' : Pos} (hN : X.N.Nodup) (he : PE X e (tE G W me)) (hi : X.N[i]? = some x := by rfl) (hx : Loc X.env.scope x := by first | exact Or.inl rfl | exact Or.inr rfl) (hs : swapsWith e (some (.Name x pos')) pos.line X.env = pure false := by rfl)
    (hf : X.fn x = true ∨ X.env.scope.names.lookup x = some .local := by first | exact .inl rfl | exact .inr rfl) : PS X (.Assign [.Name x pos'] e pos) (tS G W (msSet i me)) := PS.imp (ps_set hN hi hx he hs hf) fun D σ H ⟨et, env, h, hE, hH, hP⟩ =>
  ⟨et, env, h, hE, hH, (PstS.of_bind hE hP).imp fun et1 H1 h1 d p e hr q v hv => q et1 H1 _ List.prefix_rfl (Ext.refl _) hr ((hE.mono p e).set i hv)⟩
theorem ms_expr (he : PE X e (tE G W me)) (hs : swapsWith e none pos.line X.env = pure false := by rfl) : PS X (.Expr e pos) (tS G W (msExpr me)) := PS.imp (ps_expr he hs) fun D σ H ⟨et, env, h, hE, hH, hP⟩ =>
  ⟨et, env, h, hE, hH, (PstS.of_bind hE hP).imp fun et1 H1 h1 d p e hr q v hv => q et1 H1 σ List.prefix_rfl (Ext.refl _) hr (hE.mono p e)⟩
end

/-! ### op=, stores -/
def msAug (i : Nat) (f : D → D → IH → R D) (m : ME) : MS := fun env h => match env[i]? with
  | some (some x) => (m env h).bindS env fun y h1 => (f x y h1).bindS env fun z h2 => .nx (env.set i (some z)) h2
  | _ => .no
/-- in place: ints, texts, a list that grows -/
def dIAdd : D → D → IH → R D
  | .int i, .int j, h => .ok (.int (i + j)) h
  | .str a, .str b, h => if a.length + b.length ≤ 10000000 then .ok (.str (a ++ b)) h else .no
  | _, _, _ => .no
def dISub : D → D → IH → R D
  | .int i, .int j, h => .ok (.int (i - j)) h
  | _, _, _ => .no
section
variable {X : Cx} {G : Cf} {W : WX} {a b e o i : Expr} {me mo mi : ME} {pos : Pos} {r : R2} {f : D → D → IH → R D}
theorem ms_aug (n : Nat) {x : Str} {op : Operator} {pos' : Pos} (hN : X.N.Nodup) (ho : OpR X (inplaceOp op) r) (hs : OpS G r f) (he : PE X e (tE G W me)) (hi : X.N[n]? = some x := by rfl) (hx : Loc X.env.scope x := by first | exact Or.inl rfl | exact Or.inr rfl)
    (hf : X.fn x = true ∨ X.env.scope.names.lookup x = some .local := by first | exact .inl rfl | exact .inr rfl) : PS X (.AugAssign (.Name x pos') op e pos) (tS G W (msAug n f me)) := PS.imp (ps_aug hN hi hx he (ti := r) ho hf) fun D σ H ⟨et, env, h, hE, hH, hP⟩ => by
  unfold msAug at hP
  split at hP
  · rename_i x0 hx0
    obtain ⟨v0, e0, r0⟩ := hE.2 n x0 hx0
    refine ⟨v0, e0, et, env, h, hE, hH, (PstS.of_bind hE hP).imp fun et1 H1 h1 y p e hr q w hw => ?_⟩
    exact hs et1 H1 h1 x0 y v0 w _ _ (r0.mono p e) hw hr ((PstS.of_bind (hE.mono p e) q).imp fun et2 H2 h2 z p2 e2 hr2 q2 u hu => q2 et2 H2 _ List.prefix_rfl (Ext.refl _) hr2 (((hE.mono p e).mono p2 e2).set n hu))
  · exact hP.elim
theorem iadd_ok : OpS G (fun x y H Q => rI0 (fun i j => .int (i + j)) x y H Q ∨ (∃ i j, x = .str i ∧ y = .str j ∧ i.length + j.length ≤ sizeLine ∧ Q (.str (i ++ j)) H)) dIAdd := by
  intro et H h x y v w W Q rx ry R p
  unfold dIAdd at p
  split at p
  · exact .inl ⟨_, _, den_int.mp rx, den_int.mp ry, p.here R _ (by simp)⟩
  · split at p
    · rename_i c
      refine .inr ⟨_, _, den_str.mp rx, den_str.mp ry, ?_, ?_⟩
      · rw [strV_length, strV_length]; exact sz c
      · exact p.here R _ (by simp [strV_app])
    · exact p.elim
  · exact p.elim
theorem iop_addA : OpR X (inplaceOp .Add) (fun x y H Q => rI0 (fun i j => .int (i + j)) x y H Q ∨ (∃ i j, x = .str i ∧ y = .str j ∧ i.length + j.length ≤ sizeLine ∧ Q (.str (i ++ j)) H)) := OpR.or iop_add iop_add_str
theorem isub_ok : OpS G (rI0 fun i j => .int (i - j)) dISub := by
  intro et H h x y v w W Q rx ry R p
  unfold dISub at p
  split at p
  · exact ⟨_, _, den_int.mp rx, den_int.mp ry, p.here R _ (by simp)⟩
  · exact p.elim
theorem idiv_ok : OpS G (rI CDivW fun i j => .int (i / j)) dDiv := opS_I fun i j c => by
    have c' : 0 < j ∧ j < 2 ^ 64 := by simpa [cDiv] using c
    exact wide_div c'.1 (b := 64) (by omega) (by decide) (by decide)
theorem imod_ok : OpS G (rI (fun _ j => 0 < j) fun i j => .int (i % j)) dMod := opS_I fun i j c => by simpa [cMod] using c
end
/-- the place of an item, from either end -/
def ixD (n : Nat) (i : Int) : Option Nat := ixN n i
/-- o[i] = v: a list's item -/
def putD (o i v : D) (h : IH) : Option IH := match o, i with
  | .ref n, .int k => match h[n]? with
    | some (.lst xs) => (ixN xs.length k).map fun j => h.set n (.lst (xs.set j v))
    | _ => none
  | _, _ => none
def msSetI (mo mi me : ME) : MS := fun env h => (me env h).bindS env fun v h1 => (mo env h1).bindS env fun o h2 => (mi env h2).bindS env fun i h3 => match putD o i v h3 with
  | some h4 => .nx env h4
  | none => .no
section
variable {G : Cf} {et : List Addr} {H : Hp} {h h' : IH}
theorem put_ok (R : HRel G et h H) {o i v : D} {vo vi vv : V} {Q : Hp → Prop} (e : putD o i v h = some h') (ro : Den G et H o vo) (ri : Den G et H i vi) (rv : Den G et H v vv) (q : ∀ H', Ext H H' → HRel G et h' H' → Q H') : rSetL vo vi vv H Q := by
  unfold putD at e
  split at e
  · rename_i n k
    split at e
    · rename_i xs hx
      simp only [Option.map_eq_some_iff] at e
      obtain ⟨j, e1, rfl⟩ := e
      obtain ⟨a, vs, h1, rfl, h2, h3⟩ := den_list R hx ro
      refine ⟨a, vs, k, j, rfl, den_int.mp ri, h2, by rw [h3.len]; exact e1, ?_⟩
      have ex : Ext H (upd H a (.lst (vs.set j vv))) := Ext.mut h2 True.intro
      exact q _ ex (R.set hx h1 rfl h2 True.intro ⟨_, upd_same, (h3.set j rv).mono List.prefix_rfl ex⟩)
    · cases e
  · cases e
end
section
variable {X : Cx} {G : Cf} {W : WX} {a b e o i : Expr} {me mo mi : ME} {pos pos' : Pos} {r : R2} {f : D → D → IH → R D}
theorem ms_setI (he : PE X e (tE G W me)) (ho : PE X o (tE G W mo)) (hi : PE X i (tE G W mi)) (ha : ∀ v, assign (.Subscript o i pos') X.env v = (do
      let ov ← holding [v] (eval o X.env)
      let iv ← holding [v, ov] (eval i X.env)
      standAt pos'
      holding [v, ov, iv] (setItem ov iv v)
      release [v, ov, iv] []) := by intro _; rfl) (hs : swapsWithSole [.Subscript o i pos'] e pos.line X.env = pure false := by rfl) (hw : swappedStores [.Subscript o i pos'] e X.env = pure none := by rfl)
    (h1 : (assignEach [.Subscript o i pos'] X.env).map (·.2) = [assign (.Subscript o i pos') X.env] := by rfl) : PS X (.Assign [.Subscript o i pos'] e pos) (tS G W (msSetI mo mi me)) :=
  PS.imp (ps_asg he (pg_sub ho hi set_list ha) hs hw h1) fun D σ H ⟨et, env, h, hE, hH, hP⟩ => by
    refine ⟨et, env, h, hE, hH, (PstS.of_bind hE hP).imp fun et1 H1 h1 v p e hr q vv hv => ?_⟩
    have hE1 := hE.mono p e
    refine ⟨et1, env, h1, hE1, hr, (PstS.of_bind hE1 q).imp fun et2 H2 h2 o p2 e2 hr2 q2 vo ho => ?_⟩
    have hE2 := hE1.mono p2 e2
    refine ⟨et2, env, h2, hE2, hr2, (PstS.of_bind hE2 q2).imp fun et3 H3 h3 i p3 e3 hr3 q3 vi hi => ?_⟩
    have hE3 := hE2.mono p3 e3
    split at q3
    · rename_i h4 e4
      exact put_ok hr3 e4 (ho.mono p3 e3) hi ((hv.mono p2 e2).mono p3 e3) fun H' ex hr4 => q3 et3 H' σ List.prefix_rfl ex hr4 (hE3.mono List.prefix_rfl ex)
    · exact q3.elim
end
/-- o[i], by values -/
def getD' (o i : D) (h : IH) : R D := match i with
  | .int k => match o with
    | .str s => match (ixN s.length k).bind fun j => s[j]? with
      | some c => if s.length ≤ 10000000 then .ok (.str [c]) h else .no
      | none => .no
    | o => match (seqOf h o).bind fun xs => (ixN xs.length k).bind fun j => xs[j]? with
      | some d => .ok d h
      | none => .no
  | _ => .no
abbrev dIx : D → D → IH → R D := fun o i h => getD' o i h
section
variable {X : Cx} {G : Cf} {W : WX} {a b e o i : Expr} {ma mb me mo mi : ME} {pos pos' : Pos} {r : R2} {f : D → D → IH → R D}
theorem atI_den {et : List Addr} {H : Hp} {xs : List D} {vs : List V} (r : DenL G et H xs vs) {k : Int} {d : D} (e : ((ixN xs.length k).bind fun j => xs[j]?) = some d) : ∃ v, atI vs k = some v ∧ Den G et H d v := by
  simp only [Option.bind_eq_some_iff] at e
  obtain ⟨j, e1, e2⟩ := e
  obtain ⟨v, h1, h2⟩ := r.get e2
  exact ⟨v, by unfold atI; rw [r.len, e1]; exact h1, h2⟩
theorem dIx_ok : OpS G (rIx G.K) dIx := by
  intro et H h x y v w W Q rx ry R p
  unfold dIx getD' at p
  split at p
  · rename_i k
    split at p
    · rename_i s
      split at p
      · rename_i c hc
        split at p
        · rename_i l
          refine .inr (.inr ⟨strV s, k, c, den_str.mp rx, den_int.mp ry, by rw [strV_length]; exact sz l, ?_, p.here R _ (by simp [strV])⟩)
          unfold atI
          simpa [strV] using hc
        · exact p.elim
      · exact p.elim
    · split at p
      · rename_i d hd
        simp only [Option.bind_eq_some_iff] at hd
        obtain ⟨xs, e1, e2⟩ := hd
        obtain ⟨a, vs, rfl, h1, h2⟩ := seq_ok R e1 rx
        obtain ⟨u, e3, r3⟩ := atI_den h2 (k := k) (by simpa only [Option.bind_eq_some_iff] using e2)
        rcases h1 with h1 | h1
        · exact .inl ⟨a, vs, k, u, rfl, den_int.mp ry, h1, e3, p.here R _ r3⟩
        · exact .inr (.inl ⟨a, vs, k, u, rfl, den_int.mp ry, h1, e3, p.here R _ r3⟩)
      · exact p.elim
  · exact p.elim
theorem me_ix (hK : X.K = G.K) (ha : PE X a (tE G W ma)) (hb : PE X b (tE G W mb)) (hs : PlainIx b := by exact fun _ _ => rfl) : PE X (.Subscript a b pos) (tE G W (mOp dIx ma mb)) := by
  refine PE.imp (pe_ix (r := rIx X.K) ix_seq ha hb hs) fun σ H Q x => ?_
  rw [hK]
  exact tOp_of dIx_ok x
/-! slices -/
def cutD (xs : List D) (lo hi : Option Int) : List D := (xs.drop (HT.sIx xs.length 0 lo)).take (HT.sIx xs.length xs.length hi - HT.sIx xs.length 0 lo)
def cutN (xs : List Nat) (lo hi : Option Int) : List Nat := (xs.drop (HT.sIx xs.length 0 lo)).take (HT.sIx xs.length xs.length hi - HT.sIx xs.length 0 lo)
abbrev MO := EV → IH → R (Option Int)
def moNone : MO := fun _ h => .ok none h
def moSome (m : ME) : MO := fun env h => (m env h).bind fun d h1 => match d with
  | .int i => .ok (some i) h1
  | _ => .no
def tO (G : Cf) (W : WX) (m : MO) : TO := fun σ H Q => ∃ et env h, EnvR G et H env σ ∧ HRel G et h H ∧
  Pst G et H (m env h) (fun _ H' _ o => Q o H') (fun c d H' => W c d σ H')
def sliceD (x : D) (lo hi : Option Int) (h : IH) : R D := match x with
  | .str s => if s.length ≤ 10000000 then .ok (.str (cutN s lo hi)) h else .no
  | .tup l => .ok (.tup (cutD l lo hi)) h
  | x => match lstOf h x with
    | some xs => .ok (.ref h.length) (h ++ [.lst (cutD xs lo hi)])
    | none => .no
def mSlice (m : ME) (lo hi : MO) : ME := fun env h => (m env h).bind fun x h1 => (lo env h1).bind fun l h2 => (hi env h2).bind fun u h3 => sliceD x l u h3
def rSlAll (K : PySem.W.Frag) : V → Option Int → Option Int → Hp → VK → Prop := fun x lo hi H Q => rSlL K x lo hi H Q ∨ rSlA K x lo hi H Q ∨ rSlS x lo hi H Q
theorem sl_all : SlR X (rSlAll X.K) := SlR.or sl_list (SlR.or sl_tupA sl_str)
end
end NR

set_option Elab.async false
set_option linter.all false
set_option maxRecDepth 100000
/-! Slices, calls of built-ins, methods, loops. -/
namespace NR
open PySem PySem.Spec PyProof.Rows L2
section
variable {X : Cx} {G : Cf} {W : WX} {a b e o i : Expr} {ma mb me : ME} {mo1 mo2 : MO} {pos pos' p2 : Pos} {lo hi : Option Expr}
theorem moN : PO X none (tO G W moNone) := ⟨fun pins s σ H Q I ⟨et, env, h, hE, hH, hP⟩ => po_none.run pins s σ H Q I (hP.here hH)⟩
theorem moS (he : PE X e (tE G W me)) : PO X (some e) (tO G W (moSome me)) := ⟨fun pins s σ H Q I ⟨et, env, h, hE, hH, hP⟩ => (po_some he).run pins s σ H Q I ⟨et, env, h, hE, hH, (Pst.of_bind hP).imp fun et1 H1 h1 d p e hr q v hv => by
    cases d with
    | int k => exact ⟨k, den_int.mp hv, q.here hr⟩
    | _ => exact q.elim⟩⟩
theorem slice_ok {et : List Addr} {H : Hp} {h : IH} (R : HRel G et h H) {x : D} {vx : V} {l u : Option Int} {Q : VK} {W0 : Value → Option Addr → Hp → Prop} (rx : Den G et H x vx)
    (p : Pst G et H (sliceD x l u h) (fun et' H' _ d => ∀ v, Den G et' H' d v → Q v H') W0) : rSlAll G.K vx l u H Q := by
  unfold sliceD at p
  split at p
  · split at p
    · rename_i s c
      refine .inr (.inr ⟨strV s, den_str.mp rx, by rw [strV_length]; exact sz c, p.here R _ ?_⟩)
      rw [den_str]
      unfold cutS cutN
      rw [strV_length]
      simp [strV]
    · exact p.elim
  · rename_i l0
    obtain ⟨a, vs, rfl, h1, h2⟩ := den_tup.mp rx
    refine .inr (.inl ⟨a, vs, rfl, h1, fun c => ?_, fun _ => ?_⟩)
    · refine p.here R _ (den_tup.mpr ⟨a, vs, rfl, h1, ?_⟩)
      have e : cutD l0 l u = l0 := by
        unfold cutD
        rw [h2.len] at c
        rw [c.1, c.2]
        simp
      rw [e]; exact h2
    · have h3 : DenL G et H (cutD l0 l u) (cutV vs l u) := by
        unfold cutD cutV
        rw [h2.len]
        exact (h2.drop _).take _
      exact p.newT R h3
  · split at p
    · rename_i xs hx
      obtain ⟨a, vs, rfl, h1, h2⟩ := lst_ok R hx rx
      have h3 : DenL G et H (cutD xs l u) (cutV vs l u) := by
        unfold cutD cutV
        rw [h2.len]
        exact (h2.drop _).take _
      exact .inl ⟨a, vs, rfl, h1, p.newL R h3⟩
    · exact p.elim
theorem me_slice (hK : X.K = G.K) (ha : PE X e (tE G W me)) (h1 : PO X lo (tO G W mo1)) (h2 : PO X hi (tO G W mo2)) : PE X (.Subscript e (.Slice lo hi none p2) pos) (tE G W (mSlice me mo1 mo2)) :=
  PE.imp (pe_slice sl_all ha h1 h2) fun σ H Q ⟨et, env, h, hE, hH, hP⟩ => by
    refine ⟨et, env, h, hE, hH, (Pst.of_bind hP).imp fun et1 H1 h1 x p e hr q v hv => ?_⟩
    have hE1 := hE.mono p e
    refine ⟨et1, env, h1, hE1, hr, (Pst.of_bind q).imp fun et2 H2 h2 l p2 e2 hr2 q2 => ?_⟩
    have hE2 := hE1.mono p2 e2
    refine ⟨et2, env, h2, hE2, hr2, (Pst.of_bind q2).imp fun et3 H3 h3 u p3 e3 hr3 q3 => ?_⟩
    rw [hK]
    exact slice_ok hr3 ((hv.mono p2 e2).mono p3 e3) q3
end

/-! ### built-ins by values -/
def CallS (G : Cf) (r : List V → Hp → VK → Prop) (f : List D → IH → R D) : Prop := ∀ (et : List Addr) (H : Hp) (h : IH) (xs : List D) (vs : List V) (W : Value → Option Addr → Hp → Prop) (Q : VK), DenL G et H xs vs → HRel G et h H →
  Pst G et H (f xs h) (fun et' H' _ d => ∀ v, Den G et' H' d v → Q v H') W → r vs H Q
def mB (f : List D → IH → R D) (t : MA) : ME := fun env h => (t env h).bind fun xs h1 => f xs h1
section
variable {X : Cx} {G : Cf} {W : WX} {e : Expr} {es : List Expr} {mt : MA} {pos p : Pos} {x : Str} {r : List V → Hp → VK → Prop} {f : List D → IH → R D}
theorem me_callB {id : String} (hc : CallR X (.builtin id) r) (hs : CallS G r f) (hm : X.mg x = none) (hv : bootBuiltins x = some (.builtin id)) (ha : PA X (e :: es) (tA G W mt)) (hg : Gl X x := by rfl) (hn : x ≠ "__name__" := by decide) (hdb : (x == ("__debug__" : Str)) = false := by decide)
    (he : starEach (e :: es) X.env = (false, eval e X.env) :: starEach es X.env := by rfl) (hpl : (backTo pos (starEach es X.env)).any (·.1) = false := by rfl) : PE X (.Call (.Name x p) (e :: es) [] pos) (tE G W (mB f mt)) :=
  PE.imp (pe_callB hc hg hm hv ha hn hdb he hpl) fun σ H Q ⟨et, env, h, hE, hH, hP⟩ => ⟨et, env, h, hE, hH, (Pst.of_bind hP).imp fun et1 H1 h1 xs p e hr q vs hv => hs et1 H1 h1 xs vs _ Q hv hr q⟩
theorem me_callT {T : String} (hc : CallR X (.type T) r) (hs : CallS G r f) (hm : X.mg x = none) (hv : bootBuiltins x = some (.type T)) (ha : PA X (e :: es) (tA G W mt)) (hg : Gl X x := by rfl) (hn : x ≠ "__name__" := by decide) (hdb : (x == ("__debug__" : Str)) = false := by decide)
    (he : starEach (e :: es) X.env = (false, eval e X.env) :: starEach es X.env := by rfl) (hpl : (backTo pos (starEach es X.env)).any (·.1) = false := by rfl) : PE X (.Call (.Name x p) (e :: es) [] pos) (tE G W (mB f mt)) :=
  PE.imp (pe_callTy hc hg hm hv ha hn hdb he hpl) fun σ H Q ⟨et, env, h, hE, hH, hP⟩ => ⟨et, env, h, hE, hH, (Pst.of_bind hP).imp fun et1 H1 h1 xs p e hr q vs hv => hs et1 H1 h1 xs vs _ Q hv hr q⟩
end

def bAbs : List D → IH → R D
  | [.int i], h => .ok (.int (if i < 0 then -i else i)) h
  | _, _ => .no
def bMax2 : List D → IH → R D
  | [.int i, .int j], h => .ok (.int (if j > i then j else i)) h
  | _, _ => .no
def bMin2 : List D → IH → R D
  | [.int i, .int j], h => .ok (.int (if j < i then j else i)) h
  | _, _ => .no
def bInt1 : List D → IH → R D
  | [.int i], h => .ok (.int i) h
  | [.bl b], h => .ok (.int (if b then 1 else 0)) h
  | _, _ => .no
def bLen : List D → IH → R D
  | [.str s], h => if s.length ≤ 10000000 then .ok (.int (s.length : Nat)) h else .no
  | [.tup l], h => .ok (.int (l.length : Nat)) h
  | [.fl l], h => .ok (.int (l.length : Nat)) h
  | [.ref n], h => match h[n]? with
    | some (.lst xs) => .ok (.int (xs.length : Nat)) h
    | some (.frz xs) => .ok (.int (xs.length : Nat)) h
    | some (.dk kvs) => .ok (.int (kvs.length : Nat)) h
    | _ => .no
  | _, _ => .no
def bList : List D → IH → R D
  | [x], h => match x with
    | .str _ => .no
    | x => match seqOf h x with
      | some xs => .ok (.ref h.length) (h ++ [.lst xs])
      | none => .no
  | _, _ => .no
def bTuple : List D → IH → R D
  | [x], h => match x with
    | .str _ => .no
    | .tup l => .ok (.tup l) h
    | x => match lstOf h x with
      | some xs => .ok (.tup xs) h
      | none => .no
  | _, _ => .no
def bSum : List D → IH → R D
  | [x], h => match (lstOf h x).bind (allM D.int?) with
    | some ns => .ok (.int ns.sum) h
    | none => .no
  | _, _ => .no
def bAny : List D → IH → R D
  | [x], h => match (lstOf h x).bind (allM D.bl?) with
    | some bs => .ok (.bl (bs.any id)) h
    | none => .no
  | _, _ => .no
def bAll : List D → IH → R D
  | [x], h => match (lstOf h x).bind (allM D.bl?) with
    | some bs => .ok (.bl (bs.all id)) h
    | none => .no
  | _, _ => .no
section
variable {X : Cx} {G : Cf}
theorem list1 {et : List Addr} {H : Hp} {x : D} {vs : List V} (r : DenL G et H [x] vs) : ∃ v, vs = [v] ∧ Den G et H x v := by
  obtain ⟨v, ws, rfl, h1, h2⟩ := denL_cons.mp r
  rw [denL_nil] at h2
  subst h2
  exact ⟨v, rfl, h1⟩
theorem list2 {et : List Addr} {H : Hp} {x y : D} {vs : List V} (r : DenL G et H [x, y] vs) : ∃ v w, vs = [v, w] ∧ Den G et H x v ∧ Den G et H y w := by
  obtain ⟨v, ws, rfl, h1, h2⟩ := denL_cons.mp r
  obtain ⟨w, rfl, h3⟩ := list1 h2
  exact ⟨v, w, rfl, h1, h3⟩
theorem bAbs_ok : CallS G (fun xs H Q => ∃ i, xs = [.int i] ∧ Q (.int (if i < 0 then -i else i)) H) bAbs := by
  intro et H h xs vs W Q rv R p
  unfold bAbs at p
  split at p
  · obtain ⟨v, rfl, h1⟩ := list1 rv
    exact ⟨_, by rw [den_int.mp h1], p.here R _ (by simp)⟩
  · exact p.elim
theorem bMax2_ok : CallS G (fun xs H Q => ∃ i j, xs = [.int i, .int j] ∧ Q (.int (if j > i then j else i)) H) bMax2 := by
  intro et H h xs vs W Q rv R p
  unfold bMax2 at p
  split at p
  · obtain ⟨v, w, rfl, h1, h2⟩ := list2 rv
    exact ⟨_, _, by rw [den_int.mp h1, den_int.mp h2], p.here R _ (by simp)⟩
  · exact p.elim
theorem bMin2_ok : CallS G (fun xs H Q => ∃ i j, xs = [.int i, .int j] ∧ Q (.int (if j < i then j else i)) H) bMin2 := by
  intro et H h xs vs W Q rv R p
  unfold bMin2 at p
  split at p
  · obtain ⟨v, w, rfl, h1, h2⟩ := list2 rv
    exact ⟨_, _, by rw [den_int.mp h1, den_int.mp h2], p.here R _ (by simp)⟩
  · exact p.elim
theorem bInt1_ok : CallS G (fun xs H Q => (∃ i, xs = [.int i] ∧ Q (.int i) H) ∨ ∃ k, xs = [.bl k] ∧ Q (.int (if k then 1 else 0)) H) bInt1 := by
  intro et H h xs vs W Q rv R p
  unfold bInt1 at p
  split at p
  · obtain ⟨v, rfl, h1⟩ := list1 rv
    exact .inl ⟨_, by rw [den_int.mp h1], p.here R _ (by simp)⟩
  · obtain ⟨v, rfl, h1⟩ := list1 rv
    exact .inr ⟨_, by rw [den_bl.mp h1], p.here R _ (by simp)⟩
  · exact p.elim
def rLenA (K : PySem.W.Frag) : List V → Hp → VK → Prop := fun xs H Q => (∃ x n, xs = [x] ∧ LenV K x H n ∧ Q (.int n) H) ∨ (∃ a kvs, xs = [V.ref a] ∧ H a = some (.dK kvs) ∧ Q (.int kvs.length) H)
theorem call_lenA : CallR X (.builtin "len") (rLenA X.K) := CallR.or call_len call_lenD
theorem bLen_ok : CallS G (rLenA G.K) bLen := by
  intro et H h xs vs W Q rv R p
  unfold bLen at p
  split at p
  · split at p
    · rename_i s c
      obtain ⟨v, rfl, h1⟩ := list1 rv
      refine .inl ⟨_, s.length, rfl, ?_, p.here R _ (by simp)⟩
      rw [den_str.mp h1]
      exact ⟨by rw [strV_length]; exact sz c, by rw [strV_length]⟩
    · exact p.elim
  · rename_i l
    obtain ⟨v, rfl, h1⟩ := list1 rv
    obtain ⟨a, vs, rfl, h2, h3⟩ := den_tup.mp h1
    exact .inl ⟨_, l.length, rfl, .inr ⟨vs, h2, h3.len.symm⟩, p.here R _ (by simp)⟩
  · rename_i l
    obtain ⟨v, rfl, h1⟩ := list1 rv
    obtain ⟨a, vs, rfl, h2, h3⟩ := den_fl.mp h1
    exact .inl ⟨_, l.length, rfl, .inl ⟨vs, h2.sq, h3.len.symm⟩, p.here R _ (by simp)⟩
  · obtain ⟨v, rfl, h1⟩ := list1 rv
    obtain ⟨a, h2, rfl⟩ := den_ref.mp h1
    split at p
    · rename_i xs hx
      obtain ⟨vs, h3, h4⟩ := R.cell _ _ a hx h2
      exact .inl ⟨_, xs.length, rfl, .inl ⟨vs, SqL.of h3, h4.len.symm⟩, p.here R _ (by simp)⟩
    · rename_i xs hx
      obtain ⟨vs, h3, h4⟩ := R.cell _ _ a hx h2
      exact .inl ⟨_, xs.length, rfl, .inl ⟨vs, h3.sq, h4.len.symm⟩, p.here R _ (by simp)⟩
    · rename_i kvs hx
      obtain ⟨ws, h3, h4, h5⟩ := R.cell _ _ a hx h2
      have hl := congrArg List.length h4
      simp at hl
      exact .inr ⟨a, ws, rfl, h3, p.here R _ (by simp [hl])⟩
    · exact p.elim
  · exact p.elim
theorem bSum_ok : CallS G (rSum G.K) bSum := by
  intro et H h xs vs W Q rv R p
  unfold bSum at p
  split at p
  · split at p
    · rename_i ns e
      simp only [Option.bind_eq_some_iff] at e
      obtain ⟨ds, e1, e2⟩ := e
      obtain ⟨v, rfl, h1⟩ := list1 rv
      obtain ⟨a, vs, rfl, h2, h3⟩ := lst_ok R e1 h1
      rw [allM_ints e2] at h3
      rw [h3.ints] at h2
      exact ⟨a, ns, rfl, h2, p.here R _ (by simp)⟩
    · exact p.elim
  · exact p.elim
theorem bAny_ok : CallS G (rAny G.K) bAny := by
  intro et H h xs vs W Q rv R p
  unfold bAny at p
  split at p
  · split at p
    · rename_i ns e
      simp only [Option.bind_eq_some_iff] at e
      obtain ⟨ds, e1, e2⟩ := e
      obtain ⟨v, rfl, h1⟩ := list1 rv
      obtain ⟨a, vs, rfl, h2, h3⟩ := lst_ok R e1 h1
      rw [allM_bls e2] at h3
      rw [h3.bls] at h2
      exact ⟨a, ns, rfl, h2, p.here R _ (by simp)⟩
    · exact p.elim
  · exact p.elim
theorem bAll_ok : CallS G (rAll G.K) bAll := by
  intro et H h xs vs W Q rv R p
  unfold bAll at p
  split at p
  · split at p
    · rename_i ns e
      simp only [Option.bind_eq_some_iff] at e
      obtain ⟨ds, e1, e2⟩ := e
      obtain ⟨v, rfl, h1⟩ := list1 rv
      obtain ⟨a, vs, rfl, h2, h3⟩ := lst_ok R e1 h1
      rw [allM_bls e2] at h3
      rw [h3.bls] at h2
      exact ⟨a, ns, rfl, h2, p.here R _ (by simp)⟩
    · exact p.elim
  · exact p.elim
end
end NR

set_option Elab.async false
set_option linter.all false
set_option maxRecDepth 100000
/-! Methods, loops, comprehensions. -/
namespace NR
open PySem PySem.Spec PyProof.Rows L2

/-! ### methods of built-in types -/
def tyD (T : String) (h : IH) : D → Bool
  | .str _ => T == "str"
  | .int _ => T == "int"
  | .fl _ => T == "list"
  | .ref n => match h[n]? with
    | some (.lst _) => T == "list"
    | some (.frz _) => T == "list"
    | some (.dk _) => T == "dict"
    | _ => false
  | _ => false
def mMeth (T : String) (f : D → List D → IH → R D) (mo : ME) (mt : MA) : ME := fun env h => (mo env h).bind fun x h1 => if tyD T h1 x = true then (mt env h1).bind fun xs h2 => f x xs h2 else .no
def MethS (G : Cf) (r : V → List V → Hp → VK → Prop) (f : D → List D → IH → R D) : Prop := ∀ (et : List Addr) (H : Hp) (h : IH) (x : D) (v : V) (xs : List D) (vs : List V) (W : Value → Option Addr → Hp → Prop) (Q : VK), Den G et H x v → DenL G et H xs vs → HRel G et h H →
  Pst G et H (f x xs h) (fun et' H' _ d => ∀ v, Den G et' H' d v → Q v H') W → r v vs H Q
section
variable {X : Cx} {G : Cf} {W : WX} {o e : Expr} {es : List Expr} {mo : ME} {mt : MA} {name : Str} {apos cpos : Pos} {T id : String} {r : V → List V → Hp → VK → Prop} {f : D → List D → IH → R D}
theorem tyD_ok {et : List Addr} {H : Hp} {h : IH} (R : HRel G et h H) {x : D} {v : V} (e : tyD T h x = true) (r : Den G et H x v) : tyV G.K T v H := by
  cases x with
  | str s => rw [den_str.mp r]; exact (show T = "str" by simpa [tyD] using e)
  | int s => rw [den_int.mp r]; exact (show T = "int" by simpa [tyD] using e)
  | fl l =>
    obtain ⟨a, vs, rfl, h2, h3⟩ := den_fl.mp r
    exact .inl ⟨by simpa [tyD] using e, vs, h2.sq⟩
  | ref n =>
    obtain ⟨a, h1, rfl⟩ := den_ref.mp r
    simp only [tyD] at e
    split at e
    · rename_i xs hx
      obtain ⟨vs, h2, h3⟩ := R.cell n _ a hx h1
      exact .inl ⟨by simpa using e, vs, SqL.of h2⟩
    · rename_i xs hx
      obtain ⟨vs, h2, h3⟩ := R.cell n _ a hx h1
      exact .inl ⟨by simpa using e, vs, h2.sq⟩
    · rename_i xs hx
      obtain ⟨vs, h2, h3⟩ := R.cell n _ a hx h1
      exact .inr (.inr (.inl ⟨by simpa using e, .inl ⟨vs, h2⟩⟩))
    · cases e
  | _ => simp [tyD] at e
theorem me_meth (hK : X.K = G.K) (pa : PlainAttrs T) (slot : Slot T name id) (hty : typeOf (.builtin id) = pure (.type "method_descriptor")) (hm : MtR X id r) (hs : MethS G r f) (ho : PE X o (tE G W mo)) (ha : PA X (e :: es) (tA G W mt))
    (hbase : attributeBase o name X.env (eval o X.env) = eval o X.env := by rfl) (hall : ((backTo cpos (starEach (e :: es) X.env)).all (!·.1) && (backToKw cpos (keywordEach [] X.env)).all (·.1.isSome) && decide ((e :: es).length + ([] : List Keyword).length + (if ([] : List Keyword).isEmpty = true then 0 else 1) < 30)) = true := by rfl)
    (hline : (apos.endLine == cpos.line) = true := by rfl) (he : starEach (e :: es) X.env = (false, eval e X.env) :: starEach es X.env := by rfl) (hpl : (backTo cpos (starEach es X.env)).any (·.1) = false := by rfl) :
    PE X (.Call (.Attribute o name apos) (e :: es) [] cpos) (tE G W (mMeth T f mo mt)) := PE.imp (pe_bm pa slot hty hm ho ha hbase hall hline he hpl) fun σ H Q ⟨et, env, h, hE, hH, hP⟩ => by
  refine ⟨et, env, h, hE, hH, (Pst.of_bind hP).imp fun et1 H1 h1 x p e hr q v hv => ?_⟩
  split at q
  · rename_i ht
    rw [hK]
    exact ⟨tyD_ok hr ht hv, et1, env, h1, hE.mono p e, hr, (Pst.of_bind q).imp fun et2 H2 h2 xs p2 e2 hr2 q2 vs hvs => hs et2 H2 h2 x v xs vs _ Q (hv.mono p2 e2) hvs hr2 q2⟩
  · exact q.elim
end
def fAppend : D → List D → IH → R D
  | .ref n, [y], h => match h[n]? with
    | some (.lst xs) => if xs.length < 10000000 then .ok .non (h.set n (.lst (xs ++ [y]))) else .no
    | _ => .no
  | _, _, _ => .no
def rExtendR : V → List V → Hp → VK → Prop := fun x vs H Q => ∃ l b xs zs, x = .ref l ∧ vs = [.ref b] ∧ H l = some (.lst xs) ∧ Rd H b (.lst zs) ∧ xs.length + zs.length ≤ sizeLine ∧ Q .non (upd H l (.lst (xs ++ zs)))
theorem mt_extendR {X : Cx} : MtM X "list.extend" rExtendR := by
  intro pins s σ H x vs v us Q I rx rv h
  obtain ⟨l, b, xs, zs, rfl, rfl, hH, hB, hz, q⟩ := h
  cases rx
  obtain ⟨u, rfl, ru⟩ := rv.one
  cases ru
  obtain ⟨z, its, n, r, hl, e⟩ := I.lstM hH
  obtain ⟨z2, its2, n2, r2, e2⟩ := Inv.lstR I hB
  have hl2 := r2.length
  have hsz : its.toArray.size + its2.toArray.size ≤ sizeLine := by rw [List.size_toArray, List.size_toArray]; omega
  have hlong : ¬ (!its.toArray.isEmpty && Builtin.List.listTooLong (its.toArray.size + its2.toArray.size)) = true := by
    rw [notLongL hsz, Bool.and_false]
    exact Bool.false_ne_true
  refine call_meets F.slot_list_extend ⟨_, e, rfl⟩ F.entry_list_extend (F.args_list_extend_2 _ _)
    (AutoSeq1.list_extend_list_list_0 l its.toArray n b its2.toArray n2 hlong (by rw [List.size_toArray]; omega) (by omega)) ⟨e, e2, ?_⟩
  refine ⟨.non, _, I.lset (its' := its ++ its2) hH e (by simp) (r.append r2) ?_, rfl, q⟩
  rw [List.length_append]
  omega
def fExtend : D → List D → IH → R D
  | .ref n, [y], h => match h[n]?, lsOf h y with
    | some (.lst xs), some ys => if xs.length + ys.length ≤ 10000000 then .ok .non (h.set n (.lst (xs ++ ys))) else .no
    | _, _ => .no
  | _, _, _ => .no
def joinN (a : List Nat) : List (List Nat) → List Nat
  | [] => []
  | [x] => x
  | x :: y :: r => x ++ a ++ joinN a (y :: r)
def fJoin : D → List D → IH → R D
  | .str a, [y], h => match (seqOf h y).bind (allM D.str?) with
    | some ys => if (ys.map List.length).sum + ys.length * a.length ≤ 10000000 then .ok (.str (joinN a ys)) h else .no
    | none => .no
  | _, _, _ => .no
theorem glue_fold (a : List Nat) : ∀ (ys : List (List Nat)) (x : List Nat), (ys.map strV).foldl (fun acc p => acc ++ (strV a).cps ++ p.cps) (strV x).cps = (strV (joinN a (x :: ys))).cps
  | [], x => rfl
  | y :: ys, x => by
    have ih := glue_fold a ys (x ++ a ++ y)
    rw [List.map_cons, List.foldl_cons]
    have e1 : (strV x).cps ++ (strV a).cps ++ (strV y).cps = (strV (x ++ a ++ y)).cps := by simp [strV]
    rw [e1, ih]
    congr 2
    cases ys with
    | nil => simp [joinN]
    | cons z zs => simp [joinN]
theorem join_ok (a : List Nat) (ys : List (List Nat)) : Txt.join (strV a) (ys.map strV) = strV (joinN a ys) := by
  show Builtin.Str.glued _ _ = _
  unfold Builtin.Str.glued
  cases ys with
  | nil => rfl
  | cons y ys =>
    simp only [List.map_cons, List.drop_succ_cons, List.drop_zero, List.headD_cons]
    rw [glue_fold]
section
variable {X : Cx} {G : Cf}
theorem fAppend_ok : MethS G rAppend fAppend := by
  intro et H h x v xs vs W Q rx rv R p
  unfold fAppend at p
  split at p
  · split at p
    · split at p
      · rename_i n y ys hx c
        obtain ⟨w, rfl, h1⟩ := list1 rv
        obtain ⟨a, us, h2, rfl, h3, h4⟩ := den_list R hx rx
        refine ⟨a, us, w, rfl, rfl, h3, ?_, ?_⟩
        · rw [h4.len, sizeLine_eq]; omega
        · have ex : Ext H (upd H a (.lst (us ++ [w]))) := Ext.mut h3 True.intro
          exact p et _ List.prefix_rfl ex (R.set hx h2 rfl h3 True.intro ⟨_, upd_same, (h4.app (denL_cons.mpr ⟨w, [], rfl, h1, by simp⟩)).mono List.prefix_rfl ex⟩) _ (by simp)
      · exact p.elim
    · exact p.elim
  · exact p.elim
theorem fExtend_ok : MethS G rExtendR fExtend := by
  intro et H h x v xs vs W Q rx rv R p
  unfold fExtend at p
  split at p
  · split at p
    · split at p
      · rename_i n y _ _ xs' ys hx hy c
        obtain ⟨w, rfl, h1⟩ := list1 rv
        obtain ⟨a, us, h2, rfl, h3, h4⟩ := den_list R hx rx
        obtain ⟨b, ws, rfl, k3, k4⟩ := ls_ok R hy h1
        refine ⟨a, b, us, ws, rfl, rfl, h3, k3, sz (by rw [h4.len, k4.len]; exact c), ?_⟩
        have ex : Ext H (upd H a (.lst (us ++ ws))) := Ext.mut h3 True.intro
        exact p et _ List.prefix_rfl ex (R.set hx h2 rfl h3 True.intro ⟨_, upd_same, (h4.app k4).mono List.prefix_rfl ex⟩) _ (by simp)
      · exact p.elim
    · exact p.elim
  · exact p.elim
theorem sum_len (ys : List (List Nat)) : ((ys.map strV).map (·.length)).sum = (ys.map List.length).sum := by
  rw [List.map_map]
  congr 1
theorem fJoin_ok : MethS G (fun x xs H Q => ∃ a p, ∃ ys : List Str, x = .str a ∧ xs = [.ref p] ∧ (SqL G.K H p (ys.map V.str) ∨ SqT G.K H p (ys.map V.str)) ∧ (ys.map (·.length)).sum + ys.length * a.length ≤ 16777216 ∧ Q (.str (Txt.join a ys)) H) fJoin := by
  intro et H h x v xs vs W Q rx rv R p
  unfold fJoin at p
  split at p
  · rename_i a y
    split at p
    · rename_i ys e
      split at p
      · rename_i c
        obtain ⟨w, rfl, h1⟩ := list1 rv
        simp only [Option.bind_eq_some_iff] at e
        obtain ⟨ds, e1, e2⟩ := e
        obtain ⟨q, us, rfl, h2, h3⟩ := seq_ok R e1 h1
        rw [allM_strs e2] at h3
        rw [h3.strs] at h2
        refine ⟨strV a, q, ys.map strV, den_str.mp rx, rfl, h2, ?_, ?_⟩
        · rw [sum_len, strV_length, List.length_map]; omega
        · exact p.here R _ (by simp [join_ok])
      · exact p.elim
    · exact p.elim
  · exact p.elim
end

/-! ### what a loop walks -/
inductive Src where
  | st (ds : List D)
  | ls (n : Nat)
  /-- what is read of the heap each time -/
  | dy (f : IH → Option (List D))
def Src.get : Src → IH → Nat → Option D
  | .st ds, _, i => ds[i]?
  | .ls n, h, i => (lstOf h (.ref n)).bind fun xs => xs[i]?
  | .dy f, h, i => (f h).bind fun xs => xs[i]?
def Src.ok : Src → IH → Bool
  | .st _, _ => true
  | .ls n, h => (lstOf h (.ref n)).isSome
  | .dy f, h => (f h).isSome
def Src.many : Src → IH → Nat
  | .st ds, _ => ds.length
  | .ls n, h => ((lstOf h (.ref n)).getD []).length
  | .dy f, h => ((f h).getD []).length
/-- the iterator J yields what the source tells -/
def JRel (G : Cf) (et0 : List Addr) (H0 : Hp) (src : Src) (J : It) : Prop := ∀ (et : List Addr) (H : Hp) (h : IH), et0 <+: et → Ext H0 H → HRel G et h H → src.ok h = true → ∀ i : Nat,
  match src.get h i with
  | some d => J.go i H ∧ ∀ x H', J.yld i H x H' → Ext H H' ∧ HRel G et h H' ∧ Den G et H' d x
  | none => J.stop i H
abbrev MI := EV → IH → R Src
def tI (G : Cf) (W : WX) (m : MI) : TI := fun σ H R => ∃ et env h, EnvR G et H env σ ∧ HRel G et h H ∧
  Pst G et H (m env h) (fun et' H' _ src => ∀ J, JRel G et' H' src J → R J H') (fun c d H' => W c d σ H')
theorem PI.imp {X : Cx} {tg iter : Expr} {w w' : TI} (h : PI X tg iter w) (k : ∀ σ H R, w' σ H R → w σ H R) : PI X tg iter w' := ⟨fun pins s σ H R I x => h.run pins s σ H R I (k σ H R x)⟩
abbrev MG := D → EV → Option EV
/-- the target's slots ws get what they get, no other slot changes -/
def OnlyS (ws : List Nat) (σ σ' : L2.St) : Prop := σ'.length = σ.length ∧ ∀ j, j ∉ ws → σ'[j]? = σ[j]?
def tG (G : Cf) (ws : List Nat) (g : MG) : TG := fun v σ H Q => ∃ et env h d, EnvR G et H env σ ∧ HRel G et h H ∧ Den G et H d v ∧ match g d env with
  | some env' => ∀ σ', OnlyS ws σ σ' → EnvR G et H env' σ' → Q σ' H
  | none => False
theorem PG.imp {X : Cx} {e : Expr} {w w' : TG} (h : PG X e w) (k : ∀ v σ H R, w' v σ H R → w v σ H R) : PG X e w' := ⟨fun pins s σ H v u R I r x => h.run pins s σ H v u R I r (k v σ H R x)⟩
def gSet (i : Nat) : MG := fun d env => some (env.set i (some d))
def gSets (is : List Nat) : MG := fun d env => match d with
  | .tup ds => if ds.length = is.length then some ((is.zip ds).foldl (fun e p => e.set p.1 (some p.2)) env) else none
  | .fl ds => if ds.length = is.length then some ((is.zip ds).foldl (fun e p => e.set p.1 (some p.2)) env) else none
  | _ => none
theorem PG.or {X : Cx} {e : Expr} {w w' : TG} (h : PG X e w) (h' : PG X e w') : PG X e (fun v σ H Q => w v σ H Q ∨ w' v σ H Q) := ⟨fun pins s σ H v u Q I r x => by
  rcases x with x | x
  · exact h.run pins s σ H v u Q I r x
  · exact h'.run pins s σ H v u Q I r x⟩
theorem OnlyS.refl (ws : List Nat) (σ : L2.St) : OnlyS ws σ σ := ⟨rfl, fun _ _ => rfl⟩
theorem OnlyS.set {ws : List Nat} {σ σ' : L2.St} (x : OnlyS ws σ σ') {i : Nat} (hi : i ∈ ws) (v : Option V) : OnlyS ws σ (σ'.set i v) :=
  ⟨by rw [List.length_set, x.1], fun j hj => by
    have hne : i ≠ j := fun z => hj (by rw [← z]; exact hi)
    rw [List.getElem?_set_ne hne]; exact x.2 j hj⟩
section
variable {X : Cx} {G : Cf} {W : WX} {e : Expr} {es : List Expr} {pos : Pos}
theorem mg_name (i : Nat) {x : Str} (hN : X.N.Nodup) (hi : X.N[i]? = some x := by rfl) (hx : Loc X.env.scope x := by first | exact Or.inl rfl | exact Or.inr rfl) (hf : X.fn x = true ∨ X.env.scope.names.lookup x = some .local := by first | exact .inl rfl | exact .inr rfl) :
    PG X (.Name x pos) (tG G [i] (gSet i)) := PG.imp (pg_name hN hi hx hf) fun v σ H Q ⟨et, env, h, d, hE, hH, hD, hP⟩ => by
  exact hP _ ((OnlyS.refl _ _).set (by simp) _) (hE.set i hD)
/-- several names -/
inductive PGN (X : Cx) (G : Cf) : List Nat → List Expr → TGs → Prop
  | nil : PGN X G [] [] gNil
  | cons {i : Nat} {is : List Nat} {e : Expr} {es : List Expr} {t : TGs} : PG X e (gName i) → PGN X G is es t → (assignEach (e :: es) X.env).map (·.2) = assign e X.env :: (assignEach es X.env).map (·.2) → PGN X G (i :: is) (e :: es) (gCons (gName i) t)
theorem PGN.pgs {is : List Nat} {es : List Expr} {t : TGs} (h : PGN X G is es t) : PGs X es t := by
  induction h with
  | nil => exact pgs_nil
  | cons h1 h2 h3 ih => exact pgs_cons h1 ih h3
theorem PGN.run {is : List Nat} {es : List Expr} {t : TGs} (h : PGN X G is es t) {et : List Addr} {H : Hp} {env : EV} {σ σ0 : L2.St} {ds : List D} {vs : List V} {ws : List Nat} {Q : L2.St → Hp → Prop} (hE : EnvR G et H env σ) (hD : DenL G et H ds vs) (hl : ds.length = is.length) (hw : ∀ i ∈ is, i ∈ ws)
    (ho : OnlyS ws σ0 σ) (q : ∀ σ', OnlyS ws σ0 σ' → EnvR G et H ((is.zip ds).foldl (fun e p => e.set p.1 (some p.2)) env) σ' → Q σ' H) : t vs σ H Q := by
  induction h generalizing env σ ds vs with
  | nil =>
    cases ds with
    | nil => rw [denL_nil] at hD; exact ⟨hD, q σ ho hE⟩
    | cons _ _ => simp at hl
  | cons h1 h2 h3 ih =>
    rename_i i is' e' es' t'
    cases ds with
    | nil => simp at hl
    | cons d ds =>
      obtain ⟨v, ws', rfl, r1, r2⟩ := denL_cons.mp hD
      refine ⟨v, ws', rfl, ?_⟩
      exact ih (hE.set i r1) r2 (by simpa using hl) (fun j hj => hw j (List.mem_cons_of_mem _ hj)) (ho.set (hw i List.mem_cons_self) _) q
theorem mg_tup {is : List Nat} {t : TGs} {k n : Nat} (hK : X.K = G.K) (hc : X.calm = true) (h : PGN X G is es t) (hln : is.length = n := by rfl) (hn : (assignEach es X.env).length = n := by rfl) (hst : (assignEach es X.env).findIdx? (·.1) = none := by rfl) :
    PG X (.Tuple es k pos) (tG G is (gSets is)) := PG.imp (PG.or (pg_tup hc h.pgs hn hst) (pg_unl hc h.pgs hn hst)) fun v σ H Q ⟨et, env, h0, d, hE, hH, hD, hP⟩ => by
  unfold gSets at hP
  cases d with
  | tup ds =>
    simp only at hP
    split at hP
    · rename_i hl
      split at hl
      · rename_i l
        obtain ⟨a, vs, rfl, r1, r2⟩ := den_tup.mp hD
        cases hl
        rw [hK]
        exact .inl ⟨a, vs, rfl, r1, by rw [r2.len, l, hln], h.run hE r2 l (fun i hi => hi) (OnlyS.refl _ _) fun σ' o hE' => hP σ' o hE'⟩
      · cases hl
    · exact hP.elim
  | fl ds =>
    simp only at hP
    split at hP
    · rename_i hl
      split at hl
      · rename_i l
        obtain ⟨a, vs, rfl, r1, r2⟩ := den_fl.mp hD
        cases hl
        rw [hK]
        exact .inr ⟨a, vs, rfl, r1.sq, by rw [r2.len, l, hln], h.run hE r2 l (fun i hi => hi) (OnlyS.refl _ _) fun σ' o hE' => hP σ' o hE'⟩
      · cases hl
    · exact hP.elim
  | _ => exact hP.elim
end
end NR

set_option Elab.async false
set_option linter.all false
set_option maxRecDepth 100000
/-! Loops, comprehensions. -/
namespace NR
open PySem PySem.Spec PyProof.Rows L2

/-! ### sources -/
/-- a list or a tuple or a text, as it comes -/
def iSeq (m : ME) : MI := fun env h => (m env h).bind fun x h1 => match x with
  | .ref n => if (lstOf h1 (.ref n)).isSome then .ok (.ls n) h1 else .no
  | .tup l => .ok (.st l) h1
  | .fl l => .ok (.st l) h1
  | .str s => if s.length ≤ 10000000 then .ok (.st (s.map fun c => .str [c])) h1 else .no
  | _ => .no
def intsFrom (lo : Int) (n : Nat) : List D := (List.range n).map fun i => .int (lo + (i : Nat))
def iRange1 (m : MA) : MI := fun env h => (m env h).bind fun xs h1 => match xs with
  | [.int j] => if -10000000 ≤ j ∧ j ≤ 10000000 then .ok (.st (intsFrom 0 j.toNat)) h1 else .no
  | _ => .no
def iRange2 (m : MA) : MI := fun env h => (m env h).bind fun xs h1 => match xs with
  | [.int i, .int j] => if -10000000 ≤ i ∧ i ≤ 10000000 ∧ -10000000 ≤ j ∧ j ≤ 10000000 then .ok (.st (intsFrom i (j - i).toNat)) h1 else .no
  | _ => .no
section
variable {X : Cx} {G : Cf} {W : WX} {e tg : Expr} {es : List Expr} {me : ME} {mt : MA} {pos p : Pos}
/-- a walk of what e holds: a list, a tuple, a text (the reading takes any of the three) -/
theorem pi_any {te : TE} (he : PE X e te) : PI X tg e (fun σ H R => iList X.K te σ H R ∨ iTup X.K te σ H R ∨ iStr te σ H R) :=
  ⟨fun pins s σ H R I x => by
    rcases x with x | x | x
    · exact (pi_list he).run pins s σ H R I x
    · exact (pi_tup he).run pins s σ H R I x
    · exact (pi_str he).run pins s σ H R I x⟩
theorem jrel_list {et : List Addr} {H : Hp} {n : Nat} {a : Addr} (e : et[n]? = some a) : JRel G et H (.ls n) (Itl G.K a) := by
  intro et1 H1 h1 p ex R ok i
  have e1 : et1[n]? = some a := by
    obtain ⟨t, rfl⟩ := p
    rw [List.getElem?_append_left (List.getElem?_eq_some_iff.mp e).1]
    exact e
  have ok' : (lstOf h1 (.ref n)).isSome = true := ok
  obtain ⟨xs, hx⟩ := Option.isSome_iff_exists.mp ok'
  obtain ⟨b, vs, hb, h2, h3⟩ := lst_ok R hx (den_ref.mpr ⟨a, e1, rfl⟩)
  cases hb
  show match (lstOf h1 (.ref n)).bind fun xs => xs[i]? with
    | some d => _
    | none => _
  rw [hx]
  show match xs[i]? with
    | some d => _
    | none => _
  cases hd : xs[i]? with
  | some d =>
    obtain ⟨v, hv, r⟩ := h3.get hd
    refine ⟨⟨vs, v, h2, hv⟩, fun x H' ⟨hH, hy⟩ => ?_⟩
    rw [hH]
    have := hy vs h2
    rw [hv] at this
    cases this
    exact ⟨Ext.refl _, R, r⟩
  | none =>
    refine ⟨vs, h2, ?_⟩
    rw [h3.len]
    exact List.getElem?_eq_none_iff.mp hd
theorem jrel_st {et : List Addr} {H : Hp} {l : List D} {J : It} (k : ∀ (et1 : List Addr) (H1 : Hp) (h1 : IH), et <+: et1 → Ext H H1 → HRel G et1 h1 H1 → ∀ i : Nat, match l[i]? with
    | some d => J.go i H1 ∧ ∀ x H', J.yld i H1 x H' → Ext H1 H' ∧ HRel G et1 h1 H' ∧ Den G et1 H' d x
    | none => J.stop i H1) : JRel G et H (.st l) J := fun et1 H1 h1 p ex R _ i => k et1 H1 h1 p ex R i
theorem mi_seq (hK : X.K = G.K) (he : PE X e (tE G W me)) : PI X tg e (tI G W (iSeq me)) := PI.imp (pi_any he) fun σ H R ⟨et, env, h, hE, hH, hP⟩ => by
  unfold iSeq at hP
  rw [hK]
  cases hr : me env h with
  | no => rw [hr] at hP; exact hP.elim
  | ex c d h1 =>
    rw [hr] at hP
    exact .inl ⟨et, env, h, hE, hH, by rw [hr]; exact hP⟩
  | ok x h1 =>
    rw [hr] at hP
    cases x with
    | ref n =>
      refine .inl ⟨et, env, h, hE, hH, ?_⟩
      rw [hr]
      refine fun et1 H1 p e R1 v hv => ?_
      obtain ⟨a, ha, rfl⟩ := den_ref.mp hv
      have q : Pst G et H (if (lstOf h1 (.ref n)).isSome then NR.R.ok (Src.ls n) h1 else .no) (fun et' H' _ src => ∀ J, JRel G et' H' src J → R J H') (fun c d H' => W c d σ H') := hP
      split at q
      · rename_i ok
        obtain ⟨xs, hx⟩ := Option.isSome_iff_exists.mp ok
        obtain ⟨b, vs, hb, h2, h3⟩ := lst_ok R1 hx hv
        cases hb
        exact ⟨a, rfl, ⟨vs, h2⟩, q et1 H1 p e R1 _ (jrel_list ha)⟩
      · exact q.elim
    | tup l =>
      refine .inr (.inl ⟨et, env, h, hE, hH, ?_⟩)
      rw [hr]
      refine fun et1 H1 p e R1 v hv => ?_
      obtain ⟨a, vs, rfl, h2, h3⟩ := den_tup.mp hv
      refine ⟨a, rfl, ⟨vs, h2⟩, hP et1 H1 p e R1 _ (jrel_st fun et2 H2 h2' p2 e2 R2 i => ?_)⟩
      cases hd : l[i]? with
      | none =>
        refine ⟨vs, e2.sqT h2, ?_⟩
        rw [h3.len]
        exact List.getElem?_eq_none_iff.mp hd
      | some d =>
        obtain ⟨v, hv, r⟩ := h3.get hd
        refine ⟨⟨vs, v, e2.sqT h2, hv⟩, fun x H' ⟨hH, hy⟩ => ?_⟩
        rw [hH]
        have := hy vs (e2.sqT h2)
        rw [hv] at this
        cases this
        exact ⟨Ext.refl _, R2, r.mono p2 e2⟩
    | fl l =>
      refine .inl ⟨et, env, h, hE, hH, ?_⟩
      rw [hr]
      refine fun et1 H1 p e R1 v hv => ?_
      obtain ⟨a, vs, rfl, h2, h3⟩ := den_fl.mp hv
      refine ⟨a, rfl, ⟨vs, h2.sq⟩, hP et1 H1 p e R1 _ (jrel_st fun et2 H2 h2' p2 e2 R2 i => ?_)⟩
      cases hd : l[i]? with
      | none =>
        refine ⟨vs, (h2.ext e2).sq, ?_⟩
        rw [h3.len]
        exact List.getElem?_eq_none_iff.mp hd
      | some d =>
        obtain ⟨v, hv, r⟩ := h3.get hd
        refine ⟨⟨vs, v, (h2.ext e2).sq, hv⟩, fun x H' ⟨hH, hy⟩ => ?_⟩
        rw [hH]
        have := hy vs (h2.ext e2).sq
        rw [hv] at this
        cases this
        exact ⟨Ext.refl _, R2, r.mono p2 e2⟩
    | str s =>
      refine .inr (.inr ⟨et, env, h, hE, hH, ?_⟩)
      rw [hr]
      refine fun et1 H1 p e R1 v hv => ?_
      have q : Pst G et H (if s.length ≤ 10000000 then NR.R.ok (Src.st (s.map fun c => .str [c])) h1 else .no) (fun et' H' _ src => ∀ J, JRel G et' H' src J → R J H') (fun c d H' => W c d σ H') := hP
      split at q
      · refine ⟨strV s, den_str.mp hv, q et1 H1 p e R1 _ (jrel_st fun et2 H2 h2' p2 e2 R2 i => ?_)⟩
        rw [List.getElem?_map]
        cases hs : s[i]? with
        | none =>
          show (strV s).cps.size ≤ i
          simp [strV]
          exact List.getElem?_eq_none_iff.mp hs
        | some c =>
          refine ⟨?_, fun x H' ⟨hH, c', hc, hx⟩ => ?_⟩
          · show i < (strV s).cps.size
            simp [strV]
            exact (List.getElem?_eq_some_iff.mp hs).1
          · subst hx
            rw [hH]
            have : c' = c := by
              have h5 : s[i]? = some c' := by simpa [strV] using hc
              rw [hs] at h5
              exact (Option.some.inj h5).symm
            subst this
            exact ⟨Ext.refl _, R2, by simp [strV]⟩
      · exact q.elim
    | _ => exact hP.elim
theorem ints_get (lo : Int) (n i : Nat) : (intsFrom lo n)[i]? = if i < n then some (.int (lo + (i : Nat))) else none := by
  unfold intsFrom
  rw [List.getElem?_map]
  by_cases h : i < n
  · rw [if_pos h, List.getElem?_range h]
    rfl
  · rw [if_neg h, List.getElem?_eq_none (by simpa using h)]
    rfl
theorem jrel_ints {et : List Addr} {H : Hp} {lo : Int} {n : Nat} : JRel G et H (.st (intsFrom lo n)) (Itr lo n) := jrel_st fun et1 H1 h1 p ex R i => by
  rw [ints_get]
  by_cases h : i < n
  · rw [if_pos h]
    refine ⟨h, fun x H' ⟨hH, hx⟩ => ?_⟩
    rw [hH, hx]
    exact ⟨Ext.refl _, R, by simp⟩
  · rw [if_neg h]
    show n ≤ i
    omega
theorem mi_range1 {a : Expr} (ha : PA X [a] (tA G W mt)) (hm : X.mg "range" = none) (hg : Gl X "range" := by rfl) (hs : starEach [a] X.env = [(false, eval a X.env)] := by rfl) : PI X tg (.Call (.Name "range" p) [a] [] pos) (tI G W (iRange1 mt)) :=
  PI.imp (pi_range1 hg hm ha hs) fun σ H R ⟨et, env, h, hE, hH, hP⟩ => by
    refine ⟨et, env, h, hE, hH, (Pst.of_bind hP).imp fun et1 H1 h1 xs p e hr q vs hv => ?_⟩
    split at q
    · split at q
      · rename_i j c
        obtain ⟨v, rfl, r⟩ := list1 hv
        exact ⟨j, by rw [den_int.mp r], by omega, by omega, q.here hr _ jrel_ints⟩
      · exact q.elim
    · exact q.elim
theorem mi_range2 {a b : Expr} (ha : PA X [a, b] (tA G W mt)) (hm : X.mg "range" = none) (hg : Gl X "range" := by rfl) (hs : starEach [a, b] X.env = [(false, eval a X.env), (false, eval b X.env)] := by rfl) (hs2 : starEach [b] X.env = [(false, eval b X.env)] := by rfl) : PI X tg (.Call (.Name "range" p) [a, b] [] pos) (tI G W (iRange2 mt)) :=
  PI.imp (pi_range2 hg hm ha hs hs2) fun σ H R ⟨et, env, h, hE, hH, hP⟩ => by
    refine ⟨et, env, h, hE, hH, (Pst.of_bind hP).imp fun et1 H1 h1 xs p e hr q vs hv => ?_⟩
    split at q
    · split at q
      · rename_i i j c
        obtain ⟨v, w, rfl, r1, r2⟩ := list2 hv
        exact ⟨i, j, by rw [den_int.mp r1, den_int.mp r2], by omega, q.here hr _ jrel_ints⟩
      · exact q.elim
    · exact q.elim
end

/-! ### for -/
def forM (src : Src) (g : MG) (b : MS) : Nat → Nat → EV → IH → RS
  | 0, _, _, _ => .no
  | m + 1, i, env, h => if src.ok h = true then (match src.get h i with
    | none => .nx env h
    | some d => match g d env with
      | none => .no
      | some e1 => match b e1 h with
        | .nx e2 h2 => forM src g b m (i + 1) e2 h2
        | .ct e2 h2 => forM src g b m (i + 1) e2 h2
        | .bk e2 h2 => .nx e2 h2
        | r => r) else .no
def msFor (it : MI) (g : MG) (b : MS) : MS := fun env h => (it env h).bindS env fun src h1 => forM src g b (src.many h1 + 1) 0 env h1
section
variable {X : Cx} {G : Cf} {W : WX} {iter tg : Expr} {body : List Stmt} {it : MI} {g : MG} {ws : List Nat} {b : MS} {pos : Pos}
theorem ms_for (hc : X.calm = true) (hp : PassesOwn (model X.prog X.w) X.A X.env X.xe) (hi : PI X tg iter (tI G W it)) (hg : PG X tg (tG G ws g)) (hb : PSs X body (tS G W b)) (hs : ∀ x, foldedSetIterable iter X.env x = pure x := by intro _; rfl) :
    PS X (.For tg iter body [] pos) (tS G W (msFor it g b)) := PS.imp (ps_for hp hc hi hg hb hs) fun D σ H ⟨et, env, h, hE, hH, hP⟩ => by
  refine ⟨et, env, h, hE, hH, (PstS.of_bind hE hP).imp fun et1 H1 h1 src p e hr q J hJ => ?_⟩
  refine ⟨fun i m σ H => ∃ et2 env h, et1 <+: et2 ∧ Ext H1 H ∧ EnvR G et2 H env σ ∧ HRel G et2 h H ∧ PstS G et2 H (forM src g b m i env h) D W, ⟨_, et1, env, h1, List.prefix_rfl, Ext.refl _, hE.mono p e, hr, q⟩, fun i m σ H ⟨et2, env, h, pp, ee, hE2, hr2, q2⟩ => ?_⟩
  cases m with
  | zero => exact q2.elim
  | succ m =>
    unfold forM at q2
    split at q2
    · rename_i hok
      have j := hJ et2 H h pp ee hr2 hok i
      revert j q2
      cases hd : src.get h i with
      | none =>
        intro q2 j
        exact .inl ⟨j, q2 et2 H σ List.prefix_rfl (Ext.refl _) hr2 hE2⟩
      | some d =>
        intro q2 j
        dsimp only at q2
        refine .inr ⟨j.1, fun σ' H' => ∃ et3 env3 h3, et1 <+: et3 ∧ Ext H1 H' ∧ EnvR G et3 H' env3 σ' ∧ HRel G et3 h3 H' ∧ PstS G et3 H' (forM src g b m (i + 1) env3 h3) D W, fun σ' H' x => ⟨m, Nat.lt_succ_self m, x⟩, fun x H' hy => ?_⟩
        obtain ⟨ex, hr3, hx⟩ := j.2 x H' hy
        refine ⟨et2, env, h, d, hE2.mono List.prefix_rfl ex, hr3, hx, ?_⟩
        cases hgd : g d env with
        | none => rw [hgd] at q2; exact q2.elim
        | some e1 =>
          rw [hgd] at q2
          dsimp only at q2
          refine fun σ' _ hE' => ⟨et2, e1, h, hE', hr3, ?_⟩
          have q3 := q2
          revert q3
          cases hbr : b e1 h with
          | nx e2 h2 => exact fun q3 et' H'' σ'' p3 e3 hr4 hE4 => ⟨et', e2, h2, pp.trans p3, (ee.trans ex).trans e3, hE4, hr4, PstS.weak p3 (ex.trans e3) q3⟩
          | ct e2 h2 => exact fun q3 et' H'' σ'' p3 e3 hr4 hE4 => ⟨et', e2, h2, pp.trans p3, (ee.trans ex).trans e3, hE4, hr4, PstS.weak p3 (ex.trans e3) q3⟩
          | bk e2 h2 => exact fun q3 et' H'' σ'' p3 e3 hr4 hE4 => q3 et' H'' σ'' p3 (ex.trans e3) hr4 hE4
          | rt d2 h2 => exact fun q3 et' H'' v p3 e3 hr4 hv => q3 et' H'' v p3 (ex.trans e3) hr4 hv
          | ex c d2 e2 h2 => exact fun q3 et' H'' σ'' cls dd p3 e3 hr4 hE4 hx => q3 et' H'' σ'' cls dd p3 (ex.trans e3) hr4 hE4 hx
          | no => exact fun q3 => q3
    · exact q2.elim
end

/-! ### while -/
def whN (c : MT) (b : MS) : Nat → EV → IH → Option RS
  | 0, _, _ => none
  | k + 1, env, h => match c env h with
    | .ok true h1 => match b env h1 with
      | .nx e2 h2 => whN c b k e2 h2
      | .ct e2 h2 => whN c b k e2 h2
      | .bk e2 h2 => some (.nx e2 h2)
      | r => some r
    | .ok false h1 => some (.nx env h1)
    | .ex cl d h1 => some (.ex cl d env h1)
    | .no => some .no
open Classical in
noncomputable def msWhile (c : MT) (b : MS) : MS := fun env h => if x : ∃ r, ∃ k, whN c b k env h = some r then x.choose else .no
theorem whN_mono {c : MT} {b : MS} : ∀ {k j : Nat} {env : EV} {h : IH} {r : RS}, whN c b k env h = some r → k ≤ j → whN c b j env h = some r
  | 0, _, _, _, _, e, _ => by simp [whN] at e
  | k + 1, 0, _, _, _, _, l => absurd l (Nat.not_succ_le_zero _)
  | k + 1, j + 1, env, h, r, e, l => by
    unfold whN at e ⊢
    have l' : k ≤ j := Nat.le_of_succ_le_succ l
    revert e
    cases c env h with
    | ok a h1 =>
      cases a with
      | false => exact fun e => e
      | true =>
        dsimp only
        cases b env h1 with
        | nx e2 h2 => exact fun e => whN_mono e l'
        | ct e2 h2 => exact fun e => whN_mono e l'
        | bk e2 h2 => exact fun e => e
        | rt d2 h2 => exact fun e => e
        | ex c d2 e2 h2 => exact fun e => e
        | no => exact fun e => e
    | ex cl d h1 => exact fun e => e
    | no => exact fun e => e
theorem msWhile_of {c : MT} {b : MS} {k : Nat} {env : EV} {h : IH} {r : RS} (e : whN c b k env h = some r) : msWhile c b env h = r := by
  unfold msWhile
  have x : ∃ r, ∃ k, whN c b k env h = some r := ⟨r, k, e⟩
  rw [dif_pos x]
  obtain ⟨j, hj⟩ := x.choose_spec
  have h1 := whN_mono e (Nat.le_max_left k j)
  have h2 := whN_mono hj (Nat.le_max_right k j)
  rw [h1] at h2
  exact (Option.some.inj h2).symm
/-- one turn of a while -/
theorem msWhile_eq (c : MT) (b : MS) (env : EV) (h : IH) : msWhile c b env h = match c env h with
    | .ok true h1 => match b env h1 with
      | .nx e2 h2 => msWhile c b e2 h2
      | .ct e2 h2 => msWhile c b e2 h2
      | .bk e2 h2 => .nx e2 h2
      | r => r
    | .ok false h1 => .nx env h1
    | .ex cl d h1 => .ex cl d env h1
    | .no => .no := by
  have go : ∀ e2 h2, (∀ k, whN c b (k + 1) env h = whN c b k e2 h2) → msWhile c b env h = msWhile c b e2 h2 := fun e2 h2 hk => by
    by_cases x : ∃ r, ∃ k, whN c b k e2 h2 = some r
    · obtain ⟨r, k, e⟩ := x
      rw [msWhile_of e]
      exact msWhile_of (k := k + 1) (by rw [hk]; exact e)
    · have y : ¬ ∃ r, ∃ k, whN c b k env h = some r := fun ⟨r, k, e⟩ => by
        cases k with
        | zero => simp [whN] at e
        | succ k => rw [hk] at e; exact x ⟨r, k, e⟩
      unfold msWhile
      rw [dif_neg x, dif_neg y]
  cases hc : c env h with
  | ok a h1 =>
    cases a with
    | false => exact msWhile_of (k := 1) (by unfold whN; rw [hc])
    | true =>
      dsimp only
      cases hb : b env h1 with
      | nx e2 h2 => exact go e2 h2 fun k => by conv => lhs; unfold whN; rw [hc]; dsimp only; rw [hb]
      | ct e2 h2 => exact go e2 h2 fun k => by conv => lhs; unfold whN; rw [hc]; dsimp only; rw [hb]
      | bk e2 h2 => exact msWhile_of (k := 1) (by unfold whN; rw [hc]; dsimp only; rw [hb])
      | rt d2 h2 => exact msWhile_of (k := 1) (by unfold whN; rw [hc]; dsimp only; rw [hb])
      | ex cl d2 e2 h2 => exact msWhile_of (k := 1) (by unfold whN; rw [hc]; dsimp only; rw [hb])
      | no => exact msWhile_of (k := 1) (by unfold whN; rw [hc]; dsimp only; rw [hb])
  | ex cl d h1 => exact msWhile_of (k := 1) (by unfold whN; rw [hc])
  | no => exact msWhile_of (k := 1) (by unfold whN; rw [hc])
section
variable {X : Cx} {G : Cf} {W : WX} {c : Expr} {body : List Stmt} {mc : MT} {b : MS} {pos : Pos}
theorem ms_while (hp : PassesOwn (model X.prog X.w) X.A X.env X.xe) (hc : PT X c (tT G W mc)) (hb : PSs X body (tS G W b)) : PS X (.While c body [] pos) (tS G W (msWhile mc b)) := PS.imp (ps_while hp hc hb) fun D σ H ⟨et, env, h, hE, hH, hP⟩ => by
  unfold msWhile at hP
  split at hP
  · rename_i x
    refine ⟨fun m σ H => ∃ et env h r, EnvR G et H env σ ∧ HRel G et h H ∧ whN mc b m env h = some r ∧ PstS G et H r D W, ⟨_, et, env, h, _, hE, hH, x.choose_spec.choose_spec, hP⟩, ?_⟩
    rintro m σ H ⟨et, env, h, r, hE, hH, e, hP⟩
    cases m with
    | zero => simp [whN] at e
    | succ m =>
      unfold whN at e
      refine ⟨et, env, h, hE, hH, ?_⟩
      revert e
      cases mc env h with
      | ok a h1 =>
        cases a with
        | false =>
          intro e
          cases e
          exact fun et1 H1 p ex hr => (show D.nx σ H1 from hP et1 H1 σ p ex hr (hE.mono p ex))
        | true =>
          intro e et1 H1 p ex hr
          dsimp only
          rw [if_pos rfl]
          refine ⟨fun σ' H' => ∃ et env h r, EnvR G et H' env σ' ∧ HRel G et h H' ∧ whN mc b m env h = some r ∧ PstS G et H' r D W, fun σ' H' x => ⟨m, Nat.lt_succ_self m, x⟩, et1, env, h1, hE.mono p ex, hr, ?_⟩
          dsimp only at e
          revert e
          cases hb : b env h1 with
          | nx e2 h2 => exact fun e et2 H2 σ2 p2 ex2 hr2 hE2 => ⟨et2, e2, h2, r, hE2, hr2, e, PstS.weak (p.trans p2) (ex.trans ex2) hP⟩
          | ct e2 h2 => exact fun e et2 H2 σ2 p2 ex2 hr2 hE2 => ⟨et2, e2, h2, r, hE2, hr2, e, PstS.weak (p.trans p2) (ex.trans ex2) hP⟩
          | bk e2 h2 => intro e; cases e; exact fun et2 H2 σ2 p2 ex2 hr2 hE2 => hP et2 H2 σ2 (p.trans p2) (ex.trans ex2) hr2 hE2
          | rt d2 h2 => intro e; cases e; exact fun et2 H2 v p2 ex2 hr2 hv => hP et2 H2 v (p.trans p2) (ex.trans ex2) hr2 hv
          | ex cl d2 e2 h2 => intro e; cases e; exact fun et2 H2 σ2 cls dd p2 ex2 hr2 hE2 hx => hP et2 H2 σ2 cls dd (p.trans p2) (ex.trans ex2) hr2 hE2 hx
          | no => intro e; cases e; exact hP.elim
      | ex cl d h1 => intro e; cases e; exact fun et1 H1 cls dd p ex hr hx => hP et1 H1 σ cls dd p ex hr (hE.mono p ex) hx
      | no => intro e; cases e; exact hP.elim
  · exact hP.elim
end
end NR

set_option Elab.async false
set_option linter.all false
set_option maxRecDepth 100000
/-! Comprehensions, isinstance, the end. -/
namespace NR
open PySem PySem.Spec PyProof.Rows L2

def wipeE (env : EV) : List Nat → EV
  | [] => env
  | v :: vs => (wipeE env vs).set v none
abbrev W0 : WX := fun _ _ _ _ => False
theorem wipe_get (σ : L2.St) (j : Nat) : ∀ vs : List Nat, (wipe σ vs)[j]? = if j ∈ vs then (if j < σ.length then some none else none) else σ[j]?
  | [] => by simp [wipe]
  | v :: vs => by
    unfold wipe
    by_cases h : v = j
    · subst h
      rw [if_pos List.mem_cons_self]
      by_cases hl : v < σ.length
      · rw [List.getElem?_set_self (by rw [wipe_length]; exact hl), if_pos hl]
      · rw [List.getElem?_eq_none (by rw [List.length_set, wipe_length]; omega), if_neg hl]
    · rw [List.getElem?_set_ne h, wipe_get σ j vs]
      have : (j ∈ v :: vs) ↔ j ∈ vs := by
        rw [List.mem_cons]
        exact ⟨fun z => z.elim (fun z => absurd z.symm h) id, .inr⟩
      simp only [this]
theorem wipe_again {σ σ2 : L2.St} {vs : List Nat} (h : OnlyS vs (wipe σ vs) σ2) : wipe σ2 vs = wipe σ vs := by
  apply List.ext_getElem?
  intro j
  rw [wipe_get, wipe_get]
  have hl : σ2.length = σ.length := by rw [h.1, wipe_length]
  by_cases hj : j ∈ vs
  · rw [if_pos hj, if_pos hj, hl]
  · rw [if_neg hj, if_neg hj, h.2 j hj, wipe_out hj]
theorem EnvR.wipe {G : Cf} {et : List Addr} {H : Hp} {env : EV} {σ : L2.St} (x : EnvR G et H env σ) : ∀ vs : List Nat, EnvR G et H (wipeE env vs) (wipe σ vs)
  | [] => x
  | v :: vs => by
    have ih := x.wipe vs
    unfold wipeE L2.wipe
    refine ⟨by simp [ih.1], fun i d e => ?_⟩
    by_cases h : v = i
    · subst h
      by_cases hl : v < (wipeE env vs).length
      · rw [List.getElem?_set_self hl] at e; cases e
      · rw [List.getElem?_eq_none (by rw [List.length_set]; omega)] at e; cases e
    · rw [List.getElem?_set_ne h] at e
      obtain ⟨u, a, b⟩ := ih.2 i d e
      exact ⟨u, by rw [List.getElem?_set_ne h]; exact a, b⟩
def mYes : MT := fun _ h => .ok true h
def lcM (src : Src) (g : MG) (t : MT) (e : ME) (n : Nat) : Nat → Nat → EV → IH → R D
  | 0, _, _, _ => .no
  | m + 1, i, env, h => if src.ok h = true then (match src.get h i with
    | none => .ok (.ref n) h
    | some d => match g d env with
      | none => .no
      | some e1 => match t e1 h with
        | .ok true h2 => match e e1 h2 with
          | .ok y h3 => match h3[n]? with
            | some (.lst acc) => if acc.length < 10000000 then lcM src g t e n m (i + 1) env (h3.set n (.lst (acc ++ [y]))) else .no
            | _ => .no
          | _ => .no
        | .ok false h2 => lcM src g t e n m (i + 1) env h2
        | _ => .no) else .no
def mLc (it : MI) (g : MG) (t : MT) (e : ME) (ws : List Nat) : ME := fun env h => (it env h).bind fun src h1 => lcM src g t e h1.length (src.many h1 + 1) 0 (wipeE env ws) (h1 ++ [.lst []])
section
variable {X : Cx} {G : Cf} {W : WX} {elt tg iter : Expr} {ifs : List Expr} {scope : Scope} {own : List (Str × Nat)} {it : MI} {g : MG} {t : MT} {e : ME} {pos : Pos}
theorem mts_nil : PTs X [] (tT G W mYes) := ⟨fun pins s σ H Q I ⟨et, env, h, hE, hH, hP⟩ => pts_nil.run pins s σ H Q I (show Q true H from hP.here hH)⟩
theorem mts_one {c : Expr} {m : MT} (h : PT X c (tT G W m)) : PTs X [c] (tT G W m) := pts_one h
theorem tLc_of {σ : L2.St} {H : Hp} {Q : VK} (x : tE G W (mLc it g t e (own.map (·.2))) σ H Q) : tLc (tI G W it) (tG G (own.map (·.2)) g) (tT G W0 t) (tE G W0 e) (own.map (·.2)) σ H Q := by
  obtain ⟨et, env, h, hE, hH, hP⟩ := x
  refine ⟨et, env, h, hE, hH, (Pst.of_bind hP).imp fun et1 H1 h1 src p ex hr q J hJ Dd hD => ?_⟩
  have pf : et1 <+: et1 ++ [Dd] := List.prefix_append _ _
  have ex0 : Ext H1 (upd H1 Dd (.lst [])) := Ext.new hD
  have hr0 : HRel G (et1 ++ [Dd]) (h1 ++ [.lst []]) (upd H1 Dd (.lst [])) := hr.push hD ⟨[], upd_same, by simp⟩
  have hE0 : EnvR G (et1 ++ [Dd]) (upd H1 Dd (.lst [])) env σ := (hE.mono p ex).mono pf ex0
  have at0 : (et1 ++ [Dd])[h1.length]? = some Dd := by
    rw [← hr.len, List.getElem?_append_right (Nat.le_refl _), Nat.sub_self]
    rfl
  refine ⟨fun i m H => ∃ et2 h, et1 ++ [Dd] <+: et2 ∧ Ext H1 H ∧ EnvR G et2 H (wipeE env (own.map (·.2))) (wipe σ (own.map (·.2))) ∧ HRel G et2 h H ∧ Pst G et2 H (lcM src g t e h1.length m i (wipeE env (own.map (·.2))) h) (fun et' H' _ d => ∀ v, Den G et' H' d v → Q v H') (fun c d H' => W c d σ H'),
    ⟨_, et1 ++ [Dd], h1 ++ [.lst []], List.prefix_rfl, ex0, hE0.wipe _, hr0, Pst.weak pf ex0 q⟩, fun i m H ⟨et2, h, pp, ee, hE2, hr2, q2⟩ => ?_⟩
  have at2 : et2[h1.length]? = some Dd := by
    obtain ⟨t2, rfl⟩ := pp
    rw [List.getElem?_append_left (List.getElem?_eq_some_iff.mp at0).1]
    exact at0
  cases m with
  | zero => exact q2.elim
  | succ m =>
    unfold lcM at q2
    split at q2
    · rename_i hok
      have j := hJ et2 H h (pf.trans pp) ee hr2 hok i
      revert j q2
      cases hd : src.get h i with
      | none =>
        intro q2 j
        exact .inl ⟨j, q2.here hr2 _ (den_ref.mpr ⟨Dd, at2, rfl⟩)⟩
      | some d =>
        intro q2 j
        dsimp only at q2
        refine .inr ⟨j.1, fun H' => ∃ et3 h3, et1 ++ [Dd] <+: et3 ∧ Ext H1 H' ∧ EnvR G et3 H' (wipeE env (own.map (·.2))) (wipe σ (own.map (·.2))) ∧ HRel G et3 h3 H' ∧ Pst G et3 H' (lcM src g t e h1.length m (i + 1) (wipeE env (own.map (·.2))) h3) (fun et' H' _ d => ∀ v, Den G et' H' d v → Q v H') (fun c d H' => W c d σ H'),
          fun H' x => ⟨m, Nat.lt_succ_self m, x⟩, fun x H' hy => ?_⟩
        obtain ⟨ex1, hr3, hx⟩ := j.2 x H' hy
        have hE3 := hE2.mono List.prefix_rfl ex1
        refine ⟨et2, _, h, d, hE3, hr3, hx, ?_⟩
        cases hgd : g d (wipeE env (own.map (·.2))) with
        | none => rw [hgd] at q2; exact q2.elim
        | some e1 =>
          rw [hgd] at q2
          dsimp only at q2
          refine fun σ2 o2 hE4 => ⟨wipe_again o2, et2, e1, h, hE4, hr3, ?_⟩
          revert q2
          cases ht : t e1 h with
          | no => exact fun q2 => q2
          | ex _ _ _ => exact fun q2 => q2.elim
          | ok b h2 =>
            cases b with
            | false =>
              intro q2 et4 H4 p4 ex4 hr4
              dsimp only
              rw [if_neg Bool.false_ne_true]
              exact ⟨et4, h2, pp.trans p4, (ee.trans ex1).trans ex4, hE3.mono p4 ex4, hr4, Pst.weak p4 (ex1.trans ex4) q2⟩
            | true =>
              intro q2 et4 H4 p4 ex4 hr4
              dsimp only at q2 ⊢
              rw [if_pos rfl]
              refine ⟨et4, e1, h2, hE4.mono p4 ex4, hr4, ?_⟩
              revert q2
              cases he : e e1 h2 with
              | no => exact fun q2 => q2
              | ex _ _ _ => exact fun q2 => q2.elim
              | ok y h3 =>
                intro q2 et5 H5 p5 ex5 hr5 v hv
                dsimp only at q2
                split at q2
                · rename_i acc hacc
                  split at q2
                  · rename_i hl
                    have at5 : et5[h1.length]? = some Dd := by
                      obtain ⟨t5, rfl⟩ := p4.trans p5
                      rw [List.getElem?_append_left (List.getElem?_eq_some_iff.mp at2).1]
                      exact at2
                    obtain ⟨us, hus, dus⟩ := hr5.cell _ _ _ hacc at5
                    have ex6 : Ext H5 (upd H5 Dd (.lst (us ++ [v]))) := Ext.mut hus True.intro
                    have hr6 := hr5.set (u := .lst (us ++ [v])) (c' := .lst (acc ++ [y])) hacc at5 rfl hus True.intro ⟨_, upd_same, (dus.app (denL_cons.mpr ⟨v, [], rfl, hv, by simp⟩)).mono List.prefix_rfl ex6⟩
                    refine ⟨us, hus, by rw [dus.len, sizeLine_eq]; omega, et5, _, (pp.trans p4).trans p5, (((ee.trans ex1).trans ex4).trans ex5).trans ex6, ((hE3.mono p4 ex4).mono p5 ex5).mono List.prefix_rfl ex6, hr6, ?_⟩
                    exact Pst.weak (p4.trans p5) (((ex1.trans ex4).trans ex5).trans ex6) q2
                  · exact q2.elim
                · exact q2.elim
    · exact q2.elim
theorem me_lc (hc : X.calm = true) (hN : X.N.Nodup) (hi : PI X tg iter (tI G W it)) (ok : BlkOk X.N X.env.scope scope own)
    (hg : ∀ (s : Shared) (H : Hp) (C : Addr) (cl : List (Str × Addr)) (fp : List Addr), PG (X.blk s H scope (compEnvC scope cl C X.env) fp) tg (tG G (own.map (·.2)) g))
    (ht : ∀ (s : Shared) (H : Hp) (C : Addr) (cl : List (Str × Addr)) (fp : List Addr), PTs (X.blk s H scope (compEnvC scope cl C X.env) fp) ifs (tT G W0 t))
    (he : ∀ (s : Shared) (H : Hp) (C : Addr) (cl : List (Str × Addr)) (fp : List Addr), PE (X.blk s H scope (compEnvC scope cl C X.env) fp) elt (tE G W0 e)) (hs : ∀ x, foldedSetIterable iter X.env x = pure x := by intro _; rfl) :
    PE X (.ListComp elt [⟨tg, iter, ifs, 0⟩] scope pos) (tE G W (mLc it g t e (own.map (·.2)))) := PE.imp (pe_lc hc hN hi ok hg ht he hs) fun _ _ _ x => tLc_of x
theorem ms_setLc (i : Nat) {y : Str} {py spos : Pos} (hc : X.calm = true) (hN : X.N.Nodup) (hi : PI X tg iter (tI G W it)) (ok : BlkOk X.N X.env.scope scope own)
    (hg : ∀ (s : Shared) (H : Hp) (C : Addr) (cl : List (Str × Addr)) (fp : List Addr), PG (X.blk s H scope (compEnvC scope cl C X.env) fp) tg (tG G (own.map (·.2)) g))
    (ht : ∀ (s : Shared) (H : Hp) (C : Addr) (cl : List (Str × Addr)) (fp : List Addr), PTs (X.blk s H scope (compEnvC scope cl C X.env) fp) ifs (tT G W0 t))
    (he : ∀ (s : Shared) (H : Hp) (C : Addr) (cl : List (Str × Addr)) (fp : List Addr), PE (X.blk s H scope (compEnvC scope cl C X.env) fp) elt (tE G W0 e))
    (hsw : swapsWith (.ListComp elt [⟨tg, iter, ifs, 0⟩] scope pos) (some (.Name y py)) spos.line X.env = pure true) (hy : X.N[i]? = some y := by rfl) (hyl : X.env.scope.names.lookup y = some .local := by rfl) (hs : ∀ x, foldedSetIterable iter X.env x = pure x := by intro _; rfl) :
    PS X (.Assign [.Name y py] (.ListComp elt [⟨tg, iter, ifs, 0⟩] scope pos) spos) (tS G W (msSet i (mLc it g t e (own.map (·.2))))) := PS.imp (ps_setLc hc hN hy hyl hsw hi ok hg ht he hs) fun D σ H ⟨et, env, h, hE, hH, hP⟩ => by
  refine tLc_of ⟨et, env, h, hE, hH, (PstS.of_bind hE hP).imp fun et1 H1 h1 d p e hr q v hv => q et1 H1 _ List.prefix_rfl (Ext.refl _) hr ((hE.mono p e).set i hv)⟩
end

/-! ### isinstance -/
def isT (T : String) (h : IH) : D → Option Bool
  | .non => kitB "NoneType" T
  | .bl _ => kitB "bool" T
  | .int _ => kitB "int" T
  | .str _ => kitB "str" T
  | .tup _ => kitB "tuple" T
  | .fl _ => kitB "list" T
  | .fd _ _ => kitB "dict" T
  | .ref n => match h[n]? with
    | some (.lst _) => kitB "list" T
    | some (.frz _) => kitB "list" T
    | some (.dk _) => kitB "dict" T
    | _ => none
  | _ => none
def mIs (T : String) (m : ME) : ME := fun env h => (m env h).bind fun x h1 => match isT T h1 x with
  | some b => .ok (.bl b) h1
  | none => .no
section
variable {X : Cx} {G : Cf} {W : WX} {a : Expr} {ma : ME} {pos p p2 : Pos} {T : String} {y : Str}
theorem sqT_ty {K : PySem.W.Frag} {H : Hp} {a : Addr} {vs : List V} (h : SqT K H a vs) : TyX K H (.ref a) (.type "tuple") := by
  rcases h with (h | ⟨o, h⟩) | ⟨o, its, n, hk, hc, _⟩
  · exact .base (.tup h)
  · exact .fTuple h
  · exact .kTuple hk hc
theorem frzL_ty {K : PySem.W.Frag} {H : Hp} {a : Addr} {vs : List V} (h : FrzL K H a vs) : TyX K H (.ref a) (.type "list") := by
  rcases h with ⟨o, h⟩ | ⟨o, its, n, hk, hc, _⟩
  · exact .base (.frz h)
  · exact .kList hk hc
theorem isT_ok {et : List Addr} {H : Hp} {h : IH} (R : HRel G et h H) {x : D} {v : V} {b : Bool} (e : isT T h x = some b) (r : Den G et H x v) : ∃ t, TyX G.K H v t ∧ PySem.W.kitOne G.K t (.type T) = some b := by
  cases x with
  | non => rw [den_non.mp r]; exact ⟨_, .base .non, kit_ty e⟩
  | bl _ => rw [den_bl.mp r]; exact ⟨_, .base (.bl _), kit_ty e⟩
  | int _ => rw [den_int.mp r]; exact ⟨_, .base (.int _), kit_ty e⟩
  | str _ => rw [den_str.mp r]; exact ⟨_, .base (.str _), kit_ty e⟩
  | tup l =>
    obtain ⟨a, vs, rfl, h1, _⟩ := den_tup.mp r
    exact ⟨_, sqT_ty (TpT.sq h1), kit_ty e⟩
  | ref n =>
    obtain ⟨a, h1, rfl⟩ := den_ref.mp r
    simp only [isT] at e
    split at e
    · rename_i xs hx
      obtain ⟨vs, h2, _⟩ := R.cell n _ a hx h1
      exact ⟨_, .base (.lst h2), kit_ty e⟩
    · rename_i xs hx
      obtain ⟨vs, h2, _⟩ := R.cell n _ a hx h1
      exact ⟨_, frzL_ty h2, kit_ty e⟩
    · rename_i xs hx
      obtain ⟨vs, h2, _⟩ := R.cell n _ a hx h1
      exact ⟨_, .base (.dK h2), kit_ty e⟩
    · cases e
  | fl l =>
    obtain ⟨a, vs, rfl, h1, _⟩ := den_fl.mp r
    exact ⟨_, frzL_ty (K := G.K) h1.frz, kit_ty e⟩
  | fd ks l =>
    obtain ⟨a, ws, rfl, ⟨o, h1⟩, _⟩ := den_fd.mp r
    exact ⟨_, .fDict h1, kit_ty e⟩
  | exc a => simp [isT] at e
theorem me_is (hK : X.K = G.K) (ha : PE X a (tE G W ma)) (hm : X.mg "isinstance" = none) (hmT : X.mg y = none) (hv : bootBuiltins "isinstance" = some (.builtin "isinstance") := by decide +kernel) (hvT : bootBuiltins y = some (.type T) := by decide +kernel) (hg : Gl X "isinstance" := by rfl) (hgT : Gl X y := by rfl) (hnT : y ≠ "__name__" := by decide) (hdT : (y == ("__debug__" : Str)) = false := by decide)
    (hs1 : starEach [a, .Name y p2] X.env = (false, eval a X.env) :: starEach [.Name y p2] X.env := by rfl) (hs2 : starEach [.Name y p2] X.env = (false, eval (.Name y p2) X.env) :: starEach [] X.env := by rfl) (hpl : (backTo pos (starEach [.Name y p2] X.env)).any (·.1) = false := by rfl) :
    PE X (.Call (.Name "isinstance" p) [a, .Name y p2] [] pos) (tE G W (mIs T ma)) :=
  PE.imp (pe_callB call_isi hg hm hv (pa_cons ha (pa_cons (pe_bltn (v := .ty T) hgT hmT hvT rfl hnT hdT) pa_nil hs2) hs1) (by decide) (by decide) hs1 hpl) fun σ H Q ⟨et, env, h, hE, hH, hP⟩ => by
    refine ⟨et, env, h, hE, hH, (Pst.of_bind hP).imp fun et1 H1 h1 x p e hr q v hv => ?_⟩
    split at q
    · rename_i b hb
      obtain ⟨t, h2, h3⟩ := isT_ok hr hb hv
      rw [hK]
      exact ⟨v, .ty T, t, _, b, rfl, .ty T, h2, h3, q.here hr _ (by simp)⟩
    · exact q.elim
end
/-! ### the law's promise -/
def spLaw (G : Cf) (fm : MF) : Sp := fun vs H Q E => ∃ (a : Addr) (ns : List Int), vs = [.ref a] ∧ ns.length ≤ 63 ∧ Only H ∧ SqL G.K H a (ns.map V.int) ∧ ∀ H', Q (.bl true) H'
theorem FrzL.of_only {K : PySem.W.Frag} {H : Hp} {a : Addr} {vs : List V} (o : Only H) (h : SqL K H a vs) : FrzL K H a vs := by
  rcases h with (h | ⟨ob, h⟩) | h
  · rcases o a with z | ⟨o', xs, z⟩
    · rw [z] at h; cases h
    · rw [z] at h; cases h
  · exact .inl ⟨ob, h⟩
  · exact .inr h
/-- the law's function says True on every script -/
def LawOk (fm : MF) : Prop := ∀ ns : List Int, ns.length ≤ 63 → ∃ h', fm [.ref 0] [.frz (ns.map D.int)] = .ok (.bl true) h'
theorem law_ok {P : Program} {w : World} {K : PySem.W.Frag} {mg : Str → Option Value} {base : Heap} {CX : CXT} {k : Nat} {f : Addr} {fd : FuncData} {ps : List Str} {G : Cf} {fm : MF} (F : FnOk P w K mg base CX k f fd ps (FSp G 1 fm)) (hl : LawOk fm) : FnOk P w K mg base CX k f fd ps (spLaw G fm) :=
  F.imp fun vs H Q E ⟨a, ns, e, l, o, hS, q⟩ => by
    refine ⟨by rw [e]; rfl, [a], [.ref 0], [.frz (ns.map D.int)], ?_, ⟨rfl, ?_, ?_⟩, ?_⟩
    · rw [e]
      exact denL_cons.mpr ⟨_, [], rfl, den_ref.mpr ⟨a, rfl, rfl⟩, by simp⟩
    · intro n m c c' b h1 h2 h3 h4 f1 f2
      have : n = 0 := by
        have := (List.getElem?_eq_some_iff.mp h3).1
        simp at this
        omega
      subst this
      simp at h1
      subst h1
      cases f1
    · intro n c b h1 h2
      have : n = 0 := by
        have := (List.getElem?_eq_some_iff.mp h2).1
        simp at this
        omega
      subst this
      simp at h1 h2
      subst h1 h2
      exact ⟨_, FrzL.of_only o hS, DenL.ofInts⟩
    · obtain ⟨h', e2⟩ := hl ns l
      rw [e2]
      intro et' H' _ _ _ v hv
      rw [den_bl.mp hv]
      exact q H'
end NR

set_option Elab.async false
set_option linter.all false
set_option maxRecDepth 100000
/-! o[i] op= e; callees. -/
namespace NR
open PySem PySem.Spec PyProof.Rows L2
section
variable {X : Cx}
theorem get_list : PGet X (rIxL X.K) := by
  intro pins s σ H x y v u Q I rx ry h
  obtain ⟨p, xs, i, z, rfl, rfl, hq, he, q⟩ := h
  cases rx
  obtain ⟨t, rfl⟩ := ry
  obtain ⟨its, r, pl, hz⟩ := I.list hq
  obtain ⟨j, h1, h2, h3, h4, h5⟩ := atI_get he
  obtain ⟨w, ew, rw'⟩ := r.get h2
  have hl := r.length
  have hn := line63
  have fin : EP X pins σ Q w s := ⟨z, H, I, rw', q⟩
  by_cases h0 : 0 ≤ i
  · have hj : i.toNat = j := by
      rw [seqIndex_of h0 h5] at h1
      exact Option.some.inj h1
    exact wpAny_getItem_list pl.isList h0 (by omega) (by rw [hj]; simpa using ew) fin
  · have hj : (i + (its.toArray.size : Int)).toNat = j := by
      rw [seqIndex_neg (by omega) h4] at h1
      rw [List.size_toArray, ← hl]
      exact Option.some.inj h1
    exact wpAny_getItem_list_neg pl.isList (by omega) (by rw [List.size_toArray] <;> omega) (by omega) (by rw [hj]; simpa using ew) fin
end
/-- a list's item -/
def getL (o i : D) (h : IH) : Option D := match i with
  | .int k => (lstOf h o).bind fun xs => (ixN xs.length k).bind fun j => xs[j]?
  | _ => none
def msAugI (f : D → D → IH → R D) (mo mi me : ME) : MS := fun env h => (mo env h).bindS env fun o h1 => (mi env h1).bindS env fun i h2 => match getL o i h2 with
  | none => .no
  | some x => (me env h2).bindS env fun y h3 => (f x y h3).bindS env fun z h4 => match putD o i z h4 with
    | some h5 => .nx env h5
    | none => .no
section
variable {X : Cx} {G : Cf} {W : WX} {o i e : Expr} {me mo mi : ME} {pos tpos : Pos} {r : R2} {f : D → D → IH → R D} {op : Operator}
theorem getL_ok {et : List Addr} {H : Hp} {h : IH} {x y d : D} {v w : V} {Q : VK} (R : HRel G et h H) (e : getL x y h = some d) (rx : Den G et H x v) (ry : Den G et H y w) (q : ∀ u, Den G et H d u → Q u H) : rIxL G.K v w H Q := by
  unfold getL at e
  split at e
  · rename_i k
    simp only [Option.bind_eq_some_iff] at e
    obtain ⟨xs, e1, e2⟩ := e
    obtain ⟨a, vs, rfl, h1, h2⟩ := lst_ok R e1 rx
    obtain ⟨u, e3, r3⟩ := atI_den h2 (k := k) (by simpa only [Option.bind_eq_some_iff] using e2)
    exact ⟨a, vs, k, u, rfl, den_int.mp ry, h1, e3, q u r3⟩
  · cases e
theorem ms_augI (hK : X.K = G.K) (hop : OpR X (inplaceOp op) r) (hs : OpS G r f) (ho : PE X o (tE G W mo)) (hi : PE X i (tE G W mi)) (he : PE X e (tE G W me))
    (ha : ∀ ov iv new, augStore i ov iv new = (do holding [new, ov, iv] (setItem ov iv new); release [new, ov, iv] []; pure .next) := by intros; rfl) : PS X (.AugAssign (.Subscript o i tpos) op e pos) (tS G W (msAugI f mo mi me)) :=
  PS.imp (ps_augS ho hi get_list he (tip := r) hop set_list ha) fun D σ H ⟨et, env, h, hE, hH, hP⟩ => by
    refine ⟨et, env, h, hE, hH, (PstS.of_bind hE hP).imp fun et1 H1 h1 o p e hr q vo ho => ?_⟩
    have hE1 := hE.mono p e
    refine ⟨et1, env, h1, hE1, hr, (PstS.of_bind hE1 q).imp fun et2 H2 h2 i p2 e2 hr2 q2 vi hi => ?_⟩
    have hE2 := hE1.mono p2 e2
    have ho2 := ho.mono p2 e2
    revert q2
    cases hg : getL o i h2 with
    | none => exact fun q2 => q2.elim
    | some x =>
      intro q2
      dsimp only at q2
      rw [hK]
      refine getL_ok hr2 hg ho2 hi fun vx hx => ?_
      refine ⟨et2, env, h2, hE2, hr2, (PstS.of_bind hE2 q2).imp fun et3 H3 h3 y p3 e3 hr3 q3 vy hy => ?_⟩
      have hE3 := hE2.mono p3 e3
      refine hs et3 H3 h3 x y vx vy _ _ (hx.mono p3 e3) hy hr3 ((PstS.of_bind hE3 q3).imp fun et4 H4 h4 z p4 e4 hr4 q4 vz hz => ?_)
      have hE4 := hE3.mono p4 e4
      revert q4
      cases hp : putD o i z h4 with
      | none => exact fun q4 => q4.elim
      | some h5 =>
        intro q4
        exact put_ok hr4 hp ((ho2.mono p3 e3).mono p4 e4) ((hi.mono p3 e3).mono p4 e4) hz fun H' ex hr5 => q4 et4 H' σ List.prefix_rfl ex hr5 (hE4.mono List.prefix_rfl ex)
end
/-! ### a def by its name -/
structure FnG (P : Program) (w : World) (K : PySem.W.Frag) (mg : Str → Option Value) (base : Heap) (G : Cf) (x : Str) (k n : Nat) (fm : MF) : Prop where
  ex : ∃ f fd ps, FnOk P w K mg base (L2.CX P w) k f fd ps (FSp G n fm) ∧ mg x = some (.ref f) ∧ PySem.W.keepIn K (.ref f) = true ∧ Binds K fd ps []
section
variable {X : Cx} {G : Cf} {W : WX} {k j n : Nat} {fm : MF} {x : Str} {p pos : Pos} {e : Expr} {es : List Expr} {mt : MA}
theorem me_callG (F : FnG X.prog X.w X.K X.mg X.base G x k n fm) (hr : Room j X.A) (hj : k ≤ j) (tk : Takes X W) (ha : PA X (e :: es) (tA G W mt)) (hg : Gl X x := by rfl) (hdb : (x == ("__debug__" : Str)) = false := by decide)
    (he : starEach (e :: es) X.env = (false, eval e X.env) :: starEach es X.env := by rfl) (hpl : (backTo pos (starEach es X.env)).any (·.1) = false := by rfl) : PE X (.Call (.Name x p) (e :: es) [] pos) (tE G W (mCall n fm mt)) := by
  obtain ⟨f, fd, ps, h1, h2, h3, h4⟩ := F.ex
  exact me_call h1 (hr.mono hj) h2 h3 h4 tk ha hg hdb he hpl
theorem me_callG0 (F : FnG X.prog X.w X.K X.mg X.base G x k n fm) (hr : Room j X.A) (hj : k ≤ j) (tk : Takes X W) (hg : Gl X x := by rfl) (hdb : (x == ("__debug__" : Str)) = false := by decide) : PE X (.Call (.Name x p) [] [] pos) (tE G W (mCall n fm mNil)) := by
  obtain ⟨f, fd, ps, h1, h2, h3, h4⟩ := F.ex
  exact me_call0 h1 (hr.mono hj) h2 h3 h4 tk hg hdb
end
/-- what the written part tells of a def -/
structure DefAt (K : PySem.W.Frag) (mg : Str → Option Value) (x : Str) (st : Stmt) (ps : List Str) : Prop where
  ex : ∃ f fd, Fun K x x st f fd ∧ mg x = some (.ref f) ∧ Binds K fd ps []
theorem DefAt.fn {P : Program} {w : World} {K : PySem.W.Frag} {mg : Str → Option Value} {base : Heap} {G : Cf} {x : Str} {st : Stmt} {ps : List Str} {k n : Nat} {fm : MF} (d : DefAt K mg x st ps) (h : ∀ f fd, Fun K x x st f fd → FnOk P w K mg base (L2.CX P w) k f fd ps (FSp G n fm)) : FnG P w K mg base G x k n fm := by
  obtain ⟨f, fd, h1, h2, h3⟩ := d.ex
  exact ⟨f, fd, ps, h f fd h1, h2, h1.kp, h3⟩
end NR

set_option Elab.async false
set_option linter.all false
set_option maxRecDepth 100000
/-! list(x), tuple(x), a, b = e; constants; the end. -/
namespace NR
open PySem PySem.Spec PyProof.Rows L2
section
variable {X : Cx} {G : Cf} {W : WX}
def rListA (K : PySem.W.Frag) : List V → Hp → VK → Prop := fun xs H Q => ∃ p ys, xs = [.ref p] ∧ (SqL K H p ys ∨ SqT K H p ys) ∧ ∀ l, H l = none → Q (.ref l) (upd H l (.lst ys))
def rTupleA (K : PySem.W.Frag) : List V → Hp → VK → Prop := fun xs H Q => ∃ p ys, xs = [.ref p] ∧ ((SqL K H p ys ∧ ∀ l, H l = none → Q (.ref l) (upd H l (.tup ys))) ∨ (SqT K H p ys ∧ Q (.ref p) H))
theorem call_listA : CallR X (.type "list") (rListA X.K) := call_list_of
theorem call_tupleA : CallR X (.type "tuple") (rTupleA X.K) := call_tuple_of
theorem bList_ok : CallS G (rListA G.K) bList := by
  intro et H h xs vs W Q rv R p
  unfold bList at p
  split at p
  · split at p
    · exact p.elim
    · split at p
      · rename_i ys e
        obtain ⟨v, rfl, h1⟩ := list1 rv
        obtain ⟨a, vs, rfl, h2, h3⟩ := seq_ok R e h1
        exact ⟨a, vs, rfl, h2, p.newL R h3⟩
      · exact p.elim
  · exact p.elim
theorem bTuple_ok : CallS G (rTupleA G.K) bTuple := by
  intro et H h xs vs W Q rv R p
  unfold bTuple at p
  split at p
  · split at p
    · exact p.elim
    · obtain ⟨v, rfl, h1⟩ := list1 rv
      obtain ⟨a, vs, rfl, h2, h3⟩ := den_tup.mp h1
      exact ⟨a, vs, rfl, .inr ⟨h2, p.here R _ h1⟩⟩
    · split at p
      · rename_i ys e
        obtain ⟨v, rfl, h1⟩ := list1 rv
        obtain ⟨a, vs, rfl, h2, h3⟩ := lst_ok R e h1
        exact ⟨a, vs, rfl, .inl ⟨h2, p.newT R h3⟩⟩
      · exact p.elim
  · exact p.elim
def msSetT (g : MG) (m : ME) : MS := fun env h => (m env h).bindS env fun d h1 => match g d env with
  | some e => .nx e h1
  | none => .no
theorem ms_setT {es : List Expr} {k : Nat} {e : Expr} {me : ME} {g : MG} {ws : List Nat} {pos pos' : Pos} (he : PE X e (tE G W me)) (hg : PG X (.Tuple es k pos') (tG G ws g)) (hs : swapsWithSole [.Tuple es k pos'] e pos.line X.env = pure false := by rfl) (hw : swappedStores [.Tuple es k pos'] e X.env = pure none := by rfl)
    (h1 : (assignEach [.Tuple es k pos'] X.env).map (·.2) = [assign (.Tuple es k pos') X.env] := by rfl) : PS X (.Assign [.Tuple es k pos'] e pos) (tS G W (msSetT g me)) :=
  PS.imp (ps_asg he hg hs hw h1) fun D σ H ⟨et, env, h, hE, hH, hP⟩ => by
    refine ⟨et, env, h, hE, hH, (PstS.of_bind hE hP).imp fun et1 H1 h1 d p e hr q v hv => ?_⟩
    refine ⟨et1, env, h1, d, hE.mono p e, hr, hv, ?_⟩
    cases hgd : g d env with
    | none => rw [hgd] at q; exact q.elim
    | some e1 =>
      rw [hgd] at q
      exact fun σ' _ hE' => q et1 H1 σ' List.prefix_rfl (Ext.refl _) hr hE'
end
/-- a constant of the top -/
def GlC (mg : Str → Option Value) (x : Str) (d : D) : Prop := ∃ u, OfC d u ∧ mg x = some u
theorem me_globG {X : Cx} {G : Cf} {W : WX} {x : Str} {d : D} {pos : Pos} (g : GlC X.mg x d) (hg : Gl X x := by rfl) (hd : (x == ("__debug__" : Str)) = false := by decide) : PE X (.Name x pos) (tE G W (mC d)) := by
  obtain ⟨u, h1, h2⟩ := g
  exact me_glob d h1 h2 hg hd
theorem glI_of {K : PySem.W.Frag} {h : Heap} {mg : Str → Option Value} {x : Str} {n : Int} {d : D} (X : K.In h) (Gn : h.Ns mainGlobals mg) (g : ∃ t, PySem.W.nsIn K mainGlobals x = some (some (.int n t))) (e : (match d with | .int m => decide (m = n) | _ => false) = true) : GlC mg x d := by
  obtain ⟨t, g⟩ := g
  cases d with
  | int m =>
    have e' : m = n := by simpa using e
    subst e'
    exact ⟨_, ⟨t, rfl⟩, PySem.W.mg_of X Gn g⟩
  | _ => cases e
theorem glS_of {K : PySem.W.Frag} {h : Heap} {mg : Str → Option Value} {x s : Str} {d : D} (X : K.In h) (Gn : h.Ns mainGlobals mg) (g : ∃ t, PySem.W.nsIn K mainGlobals x = some (some (.str s t))) (e : (match d with | .str m => decide (strV m = s) | _ => false) = true) : GlC mg x d := by
  obtain ⟨t, g⟩ := g
  cases d with
  | str m =>
    have e' : strV m = s := by simpa using e
    subst e'
    exact ⟨_, ⟨t, rfl⟩, PySem.W.mg_of X Gn g⟩
  | _ => cases e
theorem cx_no {P : Program} {w : World} {H : Hp} {s : Shared} {e : Value} {s' : Shared} (hx : L2.CX P w [] H s (fun _ _ _ => False) e s') : False := by
  obtain ⟨_, _, _, _, _, _, _, _, _, _, _, _, z⟩ := hx
  exact z
end NR

set_option Elab.async false
set_option linter.all false
set_option maxRecDepth 100000
/-! Texts: list(s), tuple(s), count, find, index of one sign; displays of dicts. -/
namespace NR
open PySem PySem.Spec PyProof.Rows L2
theorem vals_of_get : ∀ {xs : List V} {us : List Value}, xs.length = us.length → (∀ (i : Nat) (x : V) (u : Value), xs[i]? = some x → us[i]? = some u → RelV x u) → Vals xs us
  | [], [], _, _ => .nil
  | [], _ :: _, h, _ => by simp at h
  | _ :: _, [], h, _ => by simp at h
  | x :: xs, u :: us, h, k => .cons (k 0 x u rfl rfl) (vals_of_get (by simpa using h) fun i a b h1 h2 => k (i + 1) a b (by simpa using h1) (by simpa using h2))
def sgD (s : List Nat) : List D := s.map fun c => .str [c]
def sgV (s : List Nat) : List V := s.map fun c => .str (strV [c])
theorem sg_den {G : Cf} {et : List Addr} {H : Hp} : ∀ {s : List Nat}, DenL G et H (sgD s) (sgV s)
  | [] => by simp [sgD, sgV]
  | c :: s => denL_cons.mpr ⟨_, _, rfl, by simp [strV], sg_den⟩
theorem sg_vals {s : List Nat} {acc : Array Value} (h : ItemsOf (SignAt (strV s)) acc (strV s).cps.size) : Vals (sgV s) acc.toList := by
  obtain ⟨h1, h2⟩ := h
  refine vals_of_get ?_ fun i x u hx hu => ?_
  · simp [sgV, strV] at h1 ⊢
    exact h1.symm
  · obtain ⟨c, t, h3, h4⟩ := h2 i u (by simpa using hu)
    subst h4
    have h5 : s[i]? = some c := by simpa [strV] using h3
    unfold sgV at hx
    rw [List.getElem?_map, h5] at hx
    cases hx
    exact ⟨t, rfl⟩
section
variable {X : Cx} {G : Cf} {W : WX}
def rListS : List V → Hp → VK → Prop := fun xs H Q => ∃ z : List Nat, xs = [.str (strV z)] ∧ z.length ≤ 10000000 ∧ ∀ l, H l = none → Q (.ref l) (upd H l (.lst (sgV z)))
def rTupS : List V → Hp → VK → Prop := fun xs H Q => ∃ z : List Nat, xs = [.str (strV z)] ∧ z.length ≤ 10000000 ∧ ∀ l, H l = none → Q (.ref l) (upd H l (.tup (sgV z)))
theorem call_listS (hc : X.calm = true) : CallR X (.type "list") rListS := by
  intro pins s σ H xs us Q I r h
  obtain ⟨z, rfl, hz, q⟩ := h
  obtain ⟨u, rfl, t, rfl⟩ := vals1 r
  refine call_list_str (I.ok.hd hc) (strV z) t (fun h' tk acc c' hk hD hacc => ?_) (by show (strV z).length ≤ _; rw [strV_length]; exact sz hz)
  refine ⟨.ref s.heap.objs.size, upd H s.heap.objs.size (.lst (sgV z)), I.laid (t' := tk) hk (Nat.le_refl _)
    (show ObjOk X.prog X.w _ _ _ (.lst (sgV z)) from ⟨by simp only [sgV, List.length_map]; exact sz hz, acc.toList, c', sg_vals hacc, by rw [Array.toArray_toList]; exact hD⟩), rfl, q _ (I.hok.fresh (Nat.le_refl _))⟩
theorem call_tupS (hc : X.calm = true) : CallR X (.type "tuple") rTupS := by
  intro pins s σ H xs us Q I r h
  obtain ⟨z, rfl, hz, q⟩ := h
  obtain ⟨u, rfl, t, rfl⟩ := vals1 r
  refine call_tuple_str (I.ok.hd hc) (strV z) t (fun h' tk acc hk hacc => ?_) (by show (strV z).length ≤ _; rw [strV_length]; exact sz hz)
  have I1 : Inv X pins σ H { s with heap := h', toks := tk } := I.kept (t' := tk) hk
  refine ⟨.ref h'.objs.size, upd H h'.objs.size (.tup (sgV z)), I1.laid (t' := tk) (fun b o e => Heap.get?_push_of_some _ e) (Nat.le_refl _)
    (show ObjOk X.prog X.w _ _ _ (.tup (sgV z)) from ⟨by simp only [sgV, List.length_map]; exact sz hz, acc.toList, sg_vals hacc, ?_⟩), rfl, q _ (I1.hok.fresh (Nat.le_refl _))⟩
  have := IsTup.new h' acc.toList.toArray
  simpa using this
def bListX : List D → IH → R D
  | [.str s], h => if s.length ≤ 10000000 then .ok (.ref h.length) (h ++ [.lst (sgD s)]) else .no
  | xs, h => bList xs h
def bTupleX : List D → IH → R D
  | [.str s], h => if s.length ≤ 10000000 then .ok (.tup (sgD s)) h else .no
  | xs, h => bTuple xs h
def rListX (K : PySem.W.Frag) : List V → Hp → VK → Prop := fun xs H Q => rListA K xs H Q ∨ rListS xs H Q
def rTupleX (K : PySem.W.Frag) : List V → Hp → VK → Prop := fun xs H Q => rTupleA K xs H Q ∨ rTupS xs H Q
theorem call_listX (hc : X.calm = true) : CallR X (.type "list") (rListX X.K) := CallR.or call_listA (call_listS hc)
theorem call_tupleX (hc : X.calm = true) : CallR X (.type "tuple") (rTupleX X.K) := CallR.or call_tupleA (call_tupS hc)
theorem bListX_ok : CallS G (rListX G.K) bListX := by
  intro et H h xs vs W Q rv R p
  unfold bListX at p
  split at p
  · rename_i s
    obtain ⟨v, rfl, r⟩ := list1 rv
    split at p
    · rename_i l
      exact .inr ⟨s, by rw [den_str.mp r], l, p.newL R sg_den⟩
    · exact p.elim
  · exact .inl (bList_ok et H h xs vs W Q rv R p)
theorem bTupleX_ok : CallS G (rTupleX G.K) bTupleX := by
  intro et H h xs vs W Q rv R p
  unfold bTupleX at p
  split at p
  · rename_i s
    obtain ⟨v, rfl, r⟩ := list1 rv
    split at p
    · rename_i l
      exact .inr ⟨s, by rw [den_str.mp r], l, p.newT R sg_den⟩
    · exact p.elim
  · exact .inl (bTuple_ok et H h xs vs W Q rv R p)
end

/-! ### places of a sign -/
def fnd (c : Nat) : List Nat → Option Nat
  | [] => none
  | d :: s => if d = c then some 0 else (fnd c s).map (· + 1)
theorem fnd_none {c : Nat} : ∀ {s : List Nat}, fnd c s = none ↔ c ∉ s
  | [] => by simp [fnd]
  | d :: s => by
    unfold fnd
    by_cases e : d = c
    · simp [e]
    · rw [if_neg e]
      simp [fnd_none (s := s), Ne.symm e]
theorem fnd_some {c : Nat} : ∀ {s : List Nat} {i : Nat}, fnd c s = some i ↔ s[i]? = some c ∧ ∀ k, k < i → s[k]? ≠ some c
  | [], i => by simp [fnd]
  | d :: s, i => by
    unfold fnd
    by_cases e : d = c
    · rw [if_pos e]
      subst e
      constructor
      · intro h
        cases h
        exact ⟨rfl, fun k hk => absurd hk (Nat.not_lt_zero k)⟩
      · rintro ⟨h1, h2⟩
        cases i with
        | zero => rfl
        | succ i => exact absurd rfl (h2 0 (Nat.succ_pos i))
    · rw [if_neg e]
      cases i with
      | zero =>
        simp only [List.getElem?_cons_zero, Option.some.injEq, e, false_and, iff_false]
        cases fnd c s <;> simp
      | succ i =>
        rw [show (Option.map (· + 1) (fnd c s) = some (i + 1)) ↔ fnd c s = some i by cases fnd c s <;> simp, fnd_some (s := s)]
        constructor
        · rintro ⟨h1, h2⟩
          refine ⟨by simpa using h1, fun k hk => ?_⟩
          cases k with
          | zero => simpa using e
          | succ k => simpa using h2 k (by omega)
        · rintro ⟨h1, h2⟩
          exact ⟨by simpa using h1, fun k hk => by simpa using h2 (k + 1) (by omega)⟩
open Builtin.Str StrLaws in
theorem occ_fnd (s : List Nat) (c : Nat) : (match fnd c s with | some i => ∃ r, occurrences (strV s) (strV [c]) 0 (strV s).length 1 = i :: r | none => occurrences (strV s) (strV [c]) 0 (strV s).length 1 = []) := by
  have at_ : ∀ i, At (strV s) (strV [c]) (strV s).length i ↔ s[i]? = some c := fun i => by
    have := subAt_one (strV s) c i
    simpa [strV, At] using this
  rcases occ_head (strV s) (strV [c]) 1 (Nat.le_refl 1) with ⟨h1, h2⟩ | ⟨i, r, h1, h2, h3⟩
  · have : fnd c s = none := fnd_none.mpr fun hm => by
      obtain ⟨i, hi⟩ := List.mem_iff_getElem?.mp hm
      exact h2 i ((at_ i).mpr hi)
    rw [this]
    exact h1
  · have : fnd c s = some i := fnd_some.mpr ⟨(at_ i).mp h2, fun k hk e => h3 k hk ((at_ k).mpr e)⟩
    rw [this]
    exact ⟨r, h1⟩
open Builtin.Str StrLaws in
theorem occ_go (s : List Nat) (c limit : Nat) : ∀ (l : List Nat) (st : Array Nat × Nat), l.Pairwise (· < ·) → (∀ i ∈ l, st.2 ≤ i) → st.1.size + l.length ≤ limit →
    (forIn l st (occBody (strV s) (strV [c]) (strV s).length limit)).run.fst.toList = st.1.toList ++ l.filter (fun i => decide (s[i]? = some c))
  | [], st, _, _, _ => by simp
  | a :: l, st, hp, hf, hl => by
    have hp' := List.pairwise_cons.mp hp
    have ha : st.2 ≤ a := hf a List.mem_cons_self
    rw [List.length_cons] at hl
    have at_ : (a + (strV [c]).length ≤ (strV s).length ∧ subAt (strV s) (strV [c]) a = true) ↔ s[a]? = some c := by
      have := subAt_one (strV s) c a
      simpa [strV] using this
    rw [List.forIn_cons]
    unfold occBody
    by_cases hc : s[a]? = some c
    · have c1 : ((st.fst.size < limit ∧ st.snd ≤ a) ∧ a + (strV [c]).length ≤ (strV s).length) ∧ subAt (strV s) (strV [c]) a = true := ⟨⟨⟨by omega, ha⟩, (at_.mpr hc).1⟩, (at_.mpr hc).2⟩
      rw [if_pos c1]
      refine (occ_go s c limit l (st.1.push a, a + (strV [c]).length) hp'.2 (fun i hi => ?_) (by simp; omega)).trans ?_
      · have := hp'.1 i hi
        show a + (strV [c]).length ≤ i
        rw [strV_length]
        exact this
      · rw [List.filter_cons, if_pos (by simpa using hc)]
        simp
    · have c2 : ¬ (((st.fst.size < limit ∧ st.snd ≤ a) ∧ a + (strV [c]).length ≤ (strV s).length) ∧ subAt (strV s) (strV [c]) a = true) := fun z => hc (at_.mp ⟨z.1.2, z.2⟩)
      rw [if_neg c2]
      refine (occ_go s c limit l (st.1, st.2) hp'.2 (fun i hi => hf i (List.mem_cons_of_mem _ hi)) (by show st.1.size + l.length ≤ limit; omega)).trans ?_
      rw [List.filter_cons, if_neg (by simpa using hc)]
theorem filter_range (c : Nat) : ∀ (s : List Nat) (n : Nat), s.length ≤ n → ((List.range n).filter (fun i => decide (s[i]? = some c))).length = s.count c
  | [], n, _ => by simp
  | d :: s, 0, h => by simp at h
  | d :: s, n + 1, h => by
    rw [List.range_succ_eq_map, List.filter_cons, List.filter_map]
    have ih := filter_range c s n (by simpa using h)
    have e : ((fun i => decide ((d :: s)[i]? = some c)) ∘ Nat.succ) = fun i => decide (s[i]? = some c) := by funext i; simp
    rw [e]
    by_cases hd : d = c
    · subst hd
      simp [ih]
    · simp [ih, hd]
theorem count_one (s : List Nat) (c : Nat) : Txt.count (strV s) (strV [c]) = (s.count c : Nat) := by
  unfold Txt.count
  rw [StrLaws.occ_eq]
  have h := occ_go s c ((strV s).length + 1) (List.range' 0 ((strV s).length + 1 - 0)) (#[], 0) (List.pairwise_lt_range') (fun _ _ => Nat.zero_le _) (by simp)
  rw [h]
  have e : List.range' 0 ((strV s).length + 1 - 0) = List.range (s.length + 1) := by rw [strV_length, List.range_eq_range']; rfl
  rw [e]
  show (((([] : List Nat) ++ _).length : Nat) : Int) = _
  rw [List.nil_append, filter_range c s _ (by omega)]
theorem find_one (s : List Nat) (c : Nat) : Txt.find (strV s) (strV [c]) = match fnd c s with | some i => (i : Int) | none => -1 := by
  have := occ_fnd s c
  unfold Txt.find
  revert this
  cases fnd c s with
  | none => intro h; rw [h]
  | some i => rintro ⟨r, h⟩; rw [h]
def fCount : D → List D → IH → R D
  | .str s, [.str [c]], h => .ok (.int (s.count c : Nat)) h
  | _, _, _ => .no
def fFind : D → List D → IH → R D
  | .str s, [.str [c]], h => .ok (.int (match fnd c s with | some i => (i : Int) | none => -1)) h
  | _, _, _ => .no
def fIndex : D → List D → IH → R D
  | .str s, [.str [c]], h => match fnd c s with
    | some i => .ok (.int (i : Nat)) h
    | none => .no
  | _, _, _ => .no
section
variable {X : Cx} {G : Cf} {W : WX}
theorem fCount_ok : MethS G (fun x xs H Q => ∃ a b, x = .str a ∧ xs = [.str b] ∧ Q (.int (Txt.count a b)) H) fCount := by
  intro et H h x v xs vs W Q rx rv R p
  unfold fCount at p
  split at p
  · obtain ⟨w, rfl, r⟩ := list1 rv
    exact ⟨_, _, den_str.mp rx, by rw [den_str.mp r], p.here R _ (by rw [count_one]; simp)⟩
  · exact p.elim
theorem fFind_ok : MethS G (fun x xs H Q => ∃ a b, x = .str a ∧ xs = [.str b] ∧ Q (.int (Txt.find a b)) H) fFind := by
  intro et H h x v xs vs W Q rx rv R p
  unfold fFind at p
  split at p
  · obtain ⟨w, rfl, r⟩ := list1 rv
    exact ⟨_, _, den_str.mp rx, by rw [den_str.mp r], p.here R _ (by rw [find_one]; simp)⟩
  · exact p.elim
theorem fIndex_ok : MethS G (fun x xs H Q => ∃ a b i rest, x = .str a ∧ xs = [.str b] ∧ Builtin.Str.occurrences a b 0 a.length 1 = i :: rest ∧ Q (.int (i : Nat)) H) fIndex := by
  intro et H h x v xs vs W Q rx rv R p
  unfold fIndex at p
  split at p
  · rename_i s c
    obtain ⟨w, rfl, r⟩ := list1 rv
    have o := occ_fnd s c
    revert p o
    cases fnd c s with
    | none => exact fun p => p.elim
    | some i =>
      rintro p ⟨rest, o⟩
      exact ⟨_, _, i, rest, den_str.mp rx, by rw [den_str.mp r], o, p.here R _ (by simp)⟩
  · exact p.elim
end

/-! ### displays of dicts: texts and ints as keys -/
def keyD? : D → Option DKey
  | .int i => some (.inl i)
  | .str s => some (.inr s)
  | _ => none
def putKD {κ : Type} [DecidableEq κ] (kvs : List (κ × D)) (k : κ) (v : D) : List (κ × D) := if (kvs.any fun p => decide (p.1 = k)) = true then kvs.map (fun p => if p.1 = k then (p.1, v) else p) else kvs ++ [(k, v)]
def mPr : List (ME × ME) → EV → IH → R (List (D × D))
  | [], _, h => .ok [] h
  | (k, v) :: r, env, h => (k env h).bind fun x h1 => (v env h1).bind fun y h2 => (mPr r env h2).bind fun ps h3 => .ok ((x, y) :: ps) h3
def keyPs : List (D × D) → Option (List (DKey × D))
  | [] => some []
  | p :: r => match keyD? p.1, keyPs r with
    | some k, some l => some ((k, p.2) :: l)
    | _, _ => none
def dkAt (h : IH) (n : Nat) : Bool := match h[n]? with
  | some (.dk []) => true
  | _ => false
def mDict (ps : List (ME × ME)) : ME := fun env h => (mPr ps env (h ++ [.dk []])).bind fun qs h1 => match keyPs qs with
  | some kvs => if kvs.length ≤ 15 ∧ dkAt h1 h.length = true then .ok (.ref h.length) (h1.set h.length (.dk (kvs.foldl (fun acc p => putKD acc p.1 p.2) []))) else .no
  | none => .no
theorem keyV_inj {a b : DKey} (e : keyV a = keyV b) : a = b := by
  cases a <;> cases b <;> simp [keyV] at e
  · rw [e]
  · rw [strV_inj e]
theorem any_keys {κ κ' : Type} [DecidableEq κ] [DecidableEq κ'] {f : κ → κ'} (inj : ∀ a b, f a = f b → a = b) (k : κ) : ∀ {kvs : List (κ × D)} {ws : List (κ' × V)}, ws.map (·.1) = kvs.map (fun p => f p.1) → (ws.any fun p => decide (p.1 = f k)) = kvs.any fun p => decide (p.1 = k)
  | [], [], _ => rfl
  | [], _ :: _, h => by simp at h
  | _ :: _, [], h => by simp at h
  | p :: kvs, q :: ws, h => by
    simp only [List.map_cons, List.cons.injEq] at h
    rw [List.any_cons, List.any_cons, any_keys inj k h.2, h.1]
    congr 1
    exact decide_eq_decide.mpr ⟨inj _ _, fun e => by rw [e]⟩
theorem denK_set {κ κ' : Type} [DecidableEq κ] [DecidableEq κ'] {f : κ → κ'} (inj : ∀ a b, f a = f b → a = b) {G : Cf} {et : List Addr} {H : Hp} {k : κ} {d : D} {v : V} (r : Den G et H d v) : ∀ {kvs : List (κ × D)} {ws : List (κ' × V)}, DenK f G et H kvs ws →
    DenK f G et H (kvs.map fun p => if p.1 = k then (p.1, d) else p) (ws.map fun p => if p.1 = f k then (p.1, v) else p)
  | [], [], _ => ⟨rfl, by simp⟩
  | [], _ :: _, h => by have := h.1; simp at this
  | _ :: _, [], h => by have := h.1; simp at this
  | p :: kvs, q :: ws, h => by
    obtain ⟨h1, h2⟩ := h
    simp only [List.map_cons, List.cons.injEq] at h1
    simp only [List.map_cons] at h2
    obtain ⟨v0, ws0, e0, h3, h4⟩ := denL_cons.mp h2
    simp only [List.cons.injEq] at e0
    obtain ⟨rfl, rfl⟩ := e0
    obtain ⟨i1, i2⟩ := denK_set inj r (kvs := kvs) (ws := ws) ⟨h1.2, h4⟩
    by_cases e : p.1 = k
    · have e' : q.1 = f k := by rw [h1.1, e]
      refine ⟨?_, ?_⟩
      · simp only [List.map_cons, e, e', if_pos]
        rw [i1]
      · simp only [List.map_cons, if_pos e, if_pos e']
        exact denL_cons.mpr ⟨v, _, rfl, r, i2⟩
    · have e' : ¬ q.1 = f k := fun z => e (inj _ _ (h1.1.symm.trans z))
      refine ⟨?_, ?_⟩
      · simp only [List.map_cons, if_neg e, if_neg e']
        rw [i1, h1.1]
      · simp only [List.map_cons, if_neg e, if_neg e']
        exact denL_cons.mpr ⟨q.2, _, rfl, h3, i2⟩
theorem denK_put {κ κ' : Type} [DecidableEq κ] [DecidableEq κ'] {f : κ → κ'} (inj : ∀ a b, f a = f b → a = b) {G : Cf} {et : List Addr} {H : Hp} {k : κ} {d : D} {v : V} (r : Den G et H d v) {kvs : List (κ × D)} {ws : List (κ' × V)} (h : DenK f G et H kvs ws) :
    DenK f G et H (putKD kvs k d) (putK ws (f k) v) := by
  unfold putKD putK
  rw [any_keys inj k h.1]
  split
  · exact denK_set inj r h
  · exact ⟨by simp [h.1], by
      rw [List.map_append, List.map_append]
      exact DenL.app h.2 (denL_cons.mpr ⟨v, [], rfl, r, by simp⟩)⟩
theorem denK_fold {G : Cf} {et : List Addr} {H : Hp} : ∀ {more : List (DKey × D)} {mw : List (Key × V)} {kvs : List (DKey × D)} {ws : List (Key × V)}, DenK keyV G et H more mw → DenK keyV G et H kvs ws → DenK keyV G et H (more.foldl (fun acc p => putKD acc p.1 p.2) kvs) (mergeK ws mw)
  | [], [], _, _, _, h => h
  | [], _ :: _, _, _, h, _ => by have := h.1; simp at this
  | _ :: _, [], _, _, h, _ => by have := h.1; simp at this
  | p :: more, q :: mw, kvs, ws, h, h0 => by
    obtain ⟨h1, h2⟩ := h
    simp only [List.map_cons, List.cons.injEq] at h1
    simp only [List.map_cons] at h2
    obtain ⟨v0, ws0, e0, h3, h4⟩ := denL_cons.mp h2
    simp only [List.cons.injEq] at e0
    obtain ⟨rfl, rfl⟩ := e0
    show DenK keyV G et H (more.foldl _ (putKD kvs p.1 p.2)) (mergeK (putK ws q.1 q.2) mw)
    refine denK_fold ⟨h1.2, h4⟩ ?_
    rw [h1.1]
    exact denK_put (fun a b => keyV_inj) h3 h0
theorem keyPs_ok {G : Cf} {et : List Addr} {H : Hp} : ∀ {ps : List (D × D)} {kvs : List (DKey × D)} {vs : List (V × V)}, keyPs ps = some kvs → DenL G et H (ps.map (·.1)) (vs.map (·.1)) → DenL G et H (ps.map (·.2)) (vs.map (·.2)) → ∃ ws : List (Key × V), vs = ws.map (fun kv => (kV kv.1, kv.2)) ∧ DenK keyV G et H kvs ws
  | [], kvs, [], e, _, _ => by
    simp only [keyPs, Option.some.injEq] at e
    subst e
    exact ⟨[], rfl, rfl, by simp⟩
  | [], _, _ :: _, _, h, _ => by
    have := h.len
    simp at this
  | _ :: _, _, [], _, h, _ => by
    have := h.len
    simp at this
  | p :: ps, kvs, q :: vs, e, h1, h2 => by
    unfold keyPs at e
    split at e
    · rename_i k l e1 e2
      cases e
      simp only [List.map_cons] at h1 h2
      obtain ⟨v0, w0, z0, a1, a2⟩ := denL_cons.mp h1
      simp only [List.cons.injEq] at z0
      obtain ⟨rfl, rfl⟩ := z0
      obtain ⟨v0, w0, z0, b1, b2⟩ := denL_cons.mp h2
      simp only [List.cons.injEq] at z0
      obtain ⟨rfl, rfl⟩ := z0
      obtain ⟨ws, rfl, c1, c2⟩ := keyPs_ok e2 a2 b2
      refine ⟨(keyV k, q.2) :: ws, ?_, ?_, ?_⟩
      · have : q.1 = kV (keyV k) := by
          unfold keyD? at e1
          split at e1
          · rename_i i he; cases e1; rw [he] at a1; exact den_int.mp a1
          · rename_i i he; cases e1; rw [he] at a1; exact den_str.mp a1
          · cases e1
        obtain ⟨q1, q2⟩ := q
        simp only at this
        subst this
        rfl
      · simp [c1]
      · exact denL_cons.mpr ⟨q.2, _, rfl, b1, c2⟩
    · cases e
section
variable {X : Cx} {G : Cf} {W : WX} {pos : Pos}
/-- the pairs of a display -/
structure Prs (X : Cx) (G : Cf) (W : WX) (pos : Pos) (keys : List (Option Expr)) (values : List Expr) (ps : List (ME × ME)) : Prop where
  pp : PPs X pos keys values (ps.map fun p => (tE G W p.1, tE G W p.2))
theorem prs_nil : Prs X G W pos [] [] [] := ⟨pps_nil⟩
theorem prs_cons {k v : Expr} {ks : List (Option Expr)} {vs : List Expr} {mk mv : ME} {ps : List (ME × ME)} (hk : PE X k (tE G W mk)) (hv : PE X v (tE G W mv)) (h : Prs X G W pos ks vs ps) : Prs X G W pos (some k :: ks) (v :: vs) ((mk, mv) :: ps) := ⟨pps_cons hk hv h.pp⟩
theorem tPairs_of {σ : L2.St} : ∀ {ps : List (ME × ME)} {H : Hp} {Q : List (V × V) → Hp → Prop} {et : List Addr} {env : EV} {h : IH}, EnvR G et H env σ → HRel G et h H →
    Pst G et H (mPr ps env h) (fun et' H' h' qs => HRel G et' h' H' → ∀ vs : List (V × V), DenL G et' H' (qs.map (·.1)) (vs.map (·.1)) → DenL G et' H' (qs.map (·.2)) (vs.map (·.2)) → Q vs H') (fun c d H' => W c d σ H') →
    tPairs (ps.map fun p => (tE G W p.1, tE G W p.2)) σ H Q
  | [], H, Q, et, env, h, hE, hH, hP => hP et H List.prefix_rfl (Ext.refl H) hH hH [] (by simp) (by simp)
  | (k, v) :: ps, H, Q, et, env, h, hE, hH, hP => by
    refine ⟨et, env, h, hE, hH, (Pst.of_bind hP).imp fun et1 H1 h1 x p1 e1 hr1 q1 vx hx => ?_⟩
    have hE1 := hE.mono p1 e1
    refine ⟨et1, env, h1, hE1, hr1, (Pst.of_bind q1).imp fun et2 H2 h2 y p2 e2 hr2 q2 vy hy => ?_⟩
    have hE2 := hE1.mono p2 e2
    refine tPairs_of hE2 hr2 ((Pst.of_bind q2).imp fun et3 H3 h3 qs p3 e3 hr3 q3 _ vs a1 a2 => ?_)
    exact q3 et3 H3 List.prefix_rfl (Ext.refl _) hr3 hr3 ((vx, vy) :: vs) (denL_cons.mpr ⟨vx, _, rfl, (hx.mono p2 e2).mono p3 e3, a1⟩) (denL_cons.mpr ⟨vy, _, rfl, hy.mono p3 e3, a2⟩)
theorem me_dict {keys : List (Option Expr)} {values : List Expr} {ps : List (ME × ME)} (h : Prs X G W pos keys values ps) (hall : keys.all (·.isSome) = true := by rfl) (hl : keys.length = values.length := by rfl) (h0 : keys ≠ [] := by exact fun z => nomatch z) (h15 : keys.length ≤ 15 := by decide) :
    PE X (.Dict keys values pos) (tE G W (mDict ps)) := PE.imp (pe_disp h.pp hall hl h0 h15) fun σ H Q ⟨et, env, h, hE, hH, hP⟩ p hp => by
  have hH1 : HRel G (et ++ [p]) (h ++ [.dk []]) (upd H p (.dK [])) := hH.push hp ⟨[], upd_same, rfl, by simp⟩
  have pf : et <+: et ++ [p] := List.prefix_append _ _
  refine tPairs_of (hE.mono pf (Ext.new hp)) hH1 ((Pst.of_bind (Pst.weak pf (Ext.new hp) hP)).imp fun et2 H2 h2 qs p2 e2 hr2 q2 => ?_)
  split at q2
  · rename_i kvs ek
    split at q2
    · rename_i c
      intro _ vs a1 a2
      obtain ⟨ws, rfl, k1⟩ := keyPs_ok ek a1 a2
      have hp2 : et2[h.length]? = some p := by
        obtain ⟨t, rfl⟩ := p2
        rw [List.getElem?_append_left (by simp [hH.len]), ← hH.len]
        simp
      have hc := c.2
      unfold dkAt at hc
      split at hc
      · rename_i hcell
        obtain ⟨w0, c1, c2, c3⟩ := hr2.cell _ _ p hcell hp2
        have w00 : w0 = [] := by simpa using c2
        subst w00
        have hl : ws.length = kvs.length := by have := congrArg List.length k1.1; simpa using this
        refine ⟨c1, ws, rfl, by rw [hl]; exact c.1, ?_⟩
        have hcl : CellOk G et2 (upd H2 p (.dK (mergeK [] ws))) p (.dk (kvs.foldl (fun acc p => putKD acc p.1 p.2) [])) :=
          ⟨_, upd_same, (denK_fold k1 (kvs := []) (ws := []) ⟨rfl, by simp⟩).mono List.prefix_rfl (Ext.mut c1 trivial)⟩
        exact q2 et2 _ List.prefix_rfl (Ext.mut c1 trivial) (hr2.set hcell hp2 rfl c1 trivial hcl) _ (den_ref.mpr ⟨p, hp2, rfl⟩)
      · cases hc
    · exact q2.elim
  · exact q2.elim
theorem me_dict0 : PE X (.Dict [] [] pos) (tE G W (mDict [])) := PE.imp pe_dnewK fun σ H Q ⟨et, env, h, hE, hH, hP⟩ p hp => by
  have hH1 : HRel G (et ++ [p]) (h ++ [.dk []]) (upd H p (.dK [])) := hH.push hp ⟨[], upd_same, rfl, by simp⟩
  have e : mDict [] env h = .ok (.ref h.length) (h ++ [.dk []]) := by
    simp [mDict, mPr, R.bind, keyPs, dkAt]
  rw [e] at hP
  refine hP (et ++ [p]) _ (List.prefix_append _ _) (Ext.new hp) hH1 _ (den_ref.mpr ⟨p, ?_, rfl⟩)
  rw [← hH.len]
  simp
end
end NR

set_option Elab.async false
set_option linter.all false
set_option maxRecDepth 100000
/-! Lists and dicts that are locked: values from then on. -/
namespace NR
open PySem PySem.Spec PyProof.Rows L2
open Classical in
/-- what an expression made anew is locked -/
noncomputable def fzR (h : IH) (r : R D) : R D := match r with
  | .ok (.ref n) h' => match h'[n]? with
    | some (.lst xs) => if h.length ≤ n ∧ D.loL h.length xs = true ∧ okB h.length h h' then .ok (.fl xs) (h'.take h.length) else .ok (.ref n) h'
    | some (.dk kvs) => if h.length ≤ n ∧ D.loL h.length (kvs.map (·.2)) = true ∧ okB h.length h h' then .ok (.fd (kvs.map (·.1)) (kvs.map (·.2))) (h'.take h.length) else .ok (.ref n) h'
    | _ => .ok (.ref n) h'
  | r => r
noncomputable def mFz (m : ME) : ME := fun env h => fzR h (m env h)
/-- a variable's list is locked ahead of a statement -/
def msFz (i : Nat) (b : MS) : MS := fun env h => match env[i]? with
  | some (some (.ref n)) => match h[n]? with
    | some (.lst xs) => b (env.set i (some (.fl xs))) (h.set n (.frz xs))
    | _ => b env h
  | _ => b env h
section
variable {G : Cf} {et et' : List Addr} {H H' : Hp} {h h' : IH}
theorem HRel.lock (R : HRel G et h H) {a : Addr} {o u : HO} (ho : H a = some o) (mu : Mut (some o)) (nin : ∀ (n : Nat) (c : Cell), h[n]? = some c → et[n]? = some a → c.isFrz = true) : HRel G et h (upd H a u) := by
  have ex : Ext H (upd H a u) := Ext.mut ho mu
  refine ⟨R.len, R.nd, fun n c b h1 h2 => ?_⟩
  have old := R.cell n c b h1 h2
  by_cases nb : b = a
  · subst nb
    have hf := nin n c h1 h2
    cases c with
    | frz xs =>
      obtain ⟨vs, h5, h6⟩ := old
      exact ⟨vs, h5.ext ex, h6.mono List.prefix_rfl ex⟩
    | _ => cases hf
  · exact old.mono List.prefix_rfl ex fun w e => by rw [upd_ne nb]; exact e
/-- a new cell is locked and forgotten -/
theorem HRel.lockNew {R0 : HRel G et h H} (R : HRel G et' h' H') (p : et <+: et') {n : Nat} {a : Addr} {c : Cell} {o u : HO} (hn : h'[n]? = some c) (ha : et'[n]? = some a) (f : c.isFrz = false) (ho : H' a = some o) (mu : Mut (some o)) (ln : h.length ≤ n)
    (ok : okB h.length h h') : HRel G et (h'.take h.length) (upd H' a u) := by
  have al := okB_all R0 ok
  have R1 := R.cut p al
  rw [R0.len] at R1
  refine R1.lock ho mu fun m c' h1 h2 => ?_
  have hm : m < h.length := by
    have := (List.getElem?_eq_some_iff.mp h1).1
    rw [List.length_take] at this
    omega
  rw [List.getElem?_take_of_lt hm] at h1
  obtain ⟨t, rfl⟩ := p
  have h3 : (et ++ t)[m]? = some a := by
    rw [List.getElem?_append_left (by rw [R0.len]; exact hm)]
    exact h2
  cases hf : c'.isFrz with
  | true => rfl
  | false =>
    have := R.nd m n c' c a h1 hn h3 ha hf f
    omega
end
section
variable {X : Cx} {G : Cf} {W : WX} {e : Expr} {m : ME} {st : Stmt} {b : MS}
theorem me_fz (he : PE X e (tE G W m)) : PE X e (tE G W (mFz m)) := ⟨fun pins s σ H Q I ⟨et, env, h, hE, hH, hP⟩ => by
  have main : Pst G et H (m env h) (fun et' H' _ d => ∀ v, Den G et' H' d v → Q v H' ∨ ∃ a u, H' a = some u ∧ Mut (some u) ∧ ∀ od, Q v (upd H' a (.frz od u))) (fun c d H' => W c d σ H') := by
    have hP : Pst G et H (fzR h (m env h)) _ _ := hP
    revert hP
    cases m env h with
    | no => exact fun z => z
    | ex c d h' => exact fun z => z
    | ok d h' =>
      intro hP
      have dull : Pst G et H (.ok d h') (fun et' H' _ d => ∀ v, Den G et' H' d v → Q v H') (fun c d H' => W c d σ H') → Pst G et H (.ok d h') (fun et' H' _ d => ∀ v, Den G et' H' d v → Q v H' ∨ ∃ a u, H' a = some u ∧ Mut (some u) ∧ ∀ od, Q v (upd H' a (.frz od u))) (fun c d H' => W c d σ H') := fun z => z.imp fun et1 H1 h1 a p e hr q v hv => .inl (q v hv)
      unfold fzR at hP
      split at hP
      · rename_i n h2 heq
        cases heq
        split at hP
        · rename_i xs hx
          split at hP
          · rename_i c
            intro et' H' p e hr v hv
            obtain ⟨a, ha, rfl⟩ := den_ref.mp hv
            obtain ⟨vs, k1, k2⟩ := hr.cell n _ a hx ha
            refine .inr ⟨a, .lst vs, k1, True.intro, fun od => ?_⟩
            have hr2 : HRel G et (h'.take h.length) (upd H' a (.frz od (.lst vs))) := HRel.lockNew (R0 := hH) hr p hx ha rfl k1 True.intro c.1 c.2.2
            have ex : Ext H' (upd H' a (.frz od (.lst vs))) := Ext.mut k1 True.intro
            have lo := c.2.1
            rw [← hH.len] at lo
            exact hP et _ List.prefix_rfl (e.trans ex) hr2 _ (den_fl.mpr ⟨a, vs, rfl, ⟨od, upd_same⟩, (k2.back p lo).mono List.prefix_rfl ex⟩)
          · exact dull hP
        · rename_i xs hx
          split at hP
          · rename_i c
            intro et' H' p e hr v hv
            obtain ⟨a, ha, rfl⟩ := den_ref.mp hv
            obtain ⟨ws, k1, k2, k3⟩ := hr.cell n _ a hx ha
            refine .inr ⟨a, .dK ws, k1, True.intro, fun od => ?_⟩
            have hr2 : HRel G et (h'.take h.length) (upd H' a (.frz od (.dK ws))) := HRel.lockNew (R0 := hH) hr p hx ha rfl k1 True.intro c.1 c.2.2
            have ex : Ext H' (upd H' a (.frz od (.dK ws))) := Ext.mut k1 True.intro
            have lo := c.2.1
            rw [← hH.len] at lo
            exact hP et _ List.prefix_rfl (e.trans ex) hr2 _ (den_fd.mpr ⟨a, ws, rfl, ⟨od, upd_same⟩, by rw [k2, List.map_map]; rfl, (k3.back p lo).mono List.prefix_rfl ex⟩)
          · exact dull hP
        · exact dull hP
      · exact dull hP
  refine thn (he.run pins s σ H _ I ⟨et, env, h, hE, hH, main⟩) fun v s1 ⟨x, H1, I1, r, q⟩ => ?_
  rcases q with q | ⟨a, u, k1, mu, q⟩
  · exact ⟨x, H1, I1, r, q⟩
  · obtain ⟨od, I2⟩ := I1.lock k1 mu
    exact ⟨x, _, I2, r, q od⟩⟩
theorem ms_fz (i : Nat) (hs : PS X st (tS G W b)) : PS X st (tS G W (msFz i b)) := ⟨fun pins s σ H D I ⟨et, env, h, hE, hH, hP⟩ => by
  unfold msFz at hP
  split at hP
  · rename_i n he
    split at hP
    · rename_i xs hx
      obtain ⟨v, e1, r⟩ := hE.2 i _ he
      obtain ⟨a, ha, rfl⟩ := den_ref.mp r
      obtain ⟨vs, k1, k2⟩ := hH.cell n _ a hx ha
      obtain ⟨od, I1⟩ := I.lock k1 True.intro
      have ex : Ext H (upd H a (.frz od (.lst vs))) := Ext.mut k1 True.intro
      have hf : DenL G et (upd H a (.frz od (.lst vs))) xs vs := k2.mono List.prefix_rfl ex
      have hE1 := (hE.mono (et' := et) List.prefix_rfl ex).set i (den_fl.mpr ⟨a, vs, rfl, ⟨od, upd_same⟩, hf⟩)
      have es : σ.set i (some (.ref a)) = σ := by
        apply List.ext_getElem?
        intro j
        by_cases hj : i = j
        · subst hj
          rw [List.getElem?_set_self (List.getElem?_eq_some_iff.mp e1).1, e1]
        · rw [List.getElem?_set_ne hj]
      rw [es] at hE1
      have hc : CellOk G et (upd H a (.frz od (.lst vs))) a (.frz xs) := ⟨vs, .inl ⟨od, upd_same⟩, hf⟩
      exact hs.run pins s σ _ D I1 ⟨et, _, _, hE1, hH.set hx ha rfl k1 True.intro hc, hP.weak List.prefix_rfl ex⟩
    · exact hs.run pins s σ H D I ⟨et, env, h, hE, hH, hP⟩
  · exact hs.run pins s σ H D I ⟨et, env, h, hE, hH, hP⟩⟩
theorem ms_setF {i : Nat} (hs : PS X st (tS G W (msSet i m))) : PS X st (tS G W (msSet i (mFz m))) := ⟨fun pins s σ H D I ⟨et, env, h, hE, hH, hP⟩ => by
  have main : PstS G et H (msSet i m env h) { D with nx := fun σ' H' => D.nx σ' H' ∨ ∃ a u, H' a = some u ∧ Mut (some u) ∧ ∀ od, D.nx σ' (upd H' a (.frz od u)) } W := by
    have hP : PstS G et H ((fzR h (m env h)).bindS env fun d h1 => .nx (env.set i (some d)) h1) D W := hP
    show PstS G et H ((m env h).bindS env fun d h1 => .nx (env.set i (some d)) h1) _ W
    revert hP
    cases m env h with
    | no => exact fun z => z
    | ex c d h' => exact fun z => z
    | ok d h' =>
      intro hP
      have dull : PstS G et H (.nx (env.set i (some d)) h') D W → PstS G et H (.nx (env.set i (some d)) h') { D with nx := fun σ' H' => D.nx σ' H' ∨ ∃ a u, H' a = some u ∧ Mut (some u) ∧ ∀ od, D.nx σ' (upd H' a (.frz od u)) } W := fun z et1 H1 σ1 p e r E => .inl (z et1 H1 σ1 p e r E)
      have slots : ∀ {n : Nat} {et' : List Addr} {H' : Hp} {σ' : L2.St} {a : Addr} {d' : NR.D} {H2 : Hp}, EnvR G et' H' (env.set i (some (.ref n))) σ' → et <+: et' → et'[n]? = some a → Ext H' H2 → Den G et H2 d' (.ref a) → EnvR G et H2 (env.set i (some d')) σ' := fun {n et' H' σ' a d' H2} E p ha ex r => by
        refine ⟨by have := E.1; simpa using this, fun j d'' q => ?_⟩
        by_cases hj : i = j
        · subst hj
          by_cases hl : i < env.length
          · rw [List.getElem?_set_self hl] at q
            cases q
            obtain ⟨v, e1, r1⟩ := E.2 i (.ref n) (by rw [List.getElem?_set_self hl])
            obtain ⟨b, hb, rfl⟩ := den_ref.mp r1
            rw [ha] at hb
            cases hb
            exact ⟨_, e1, r⟩
          · rw [List.getElem?_eq_none (by simp; omega)] at q
            cases q
        · rw [List.getElem?_set_ne hj] at q
          obtain ⟨v0, _, r0⟩ := hE.2 j d'' q
          obtain ⟨v, e1, r1⟩ := E.2 j d'' (by rw [List.getElem?_set_ne hj]; exact q)
          exact ⟨v, e1, (r1.back p r0.lo).mono List.prefix_rfl ex⟩
      unfold fzR at hP
      split at hP
      · rename_i n h2 heq
        cases heq
        split at hP
        · rename_i xs hx
          split at hP
          · rename_i c
            intro et' H' σ' p e hr E
            obtain ⟨a, ha⟩ := hr.addr hx
            obtain ⟨vs, k1, k2⟩ := hr.cell n _ a hx ha
            refine .inr ⟨a, .lst vs, k1, True.intro, fun od => ?_⟩
            have hr2 : HRel G et (h'.take h.length) (upd H' a (.frz od (.lst vs))) := HRel.lockNew (R0 := hH) hr p hx ha rfl k1 True.intro c.1 c.2.2
            have ex : Ext H' (upd H' a (.frz od (.lst vs))) := Ext.mut k1 True.intro
            have lo := c.2.1
            rw [← hH.len] at lo
            exact hP et _ σ' List.prefix_rfl (e.trans ex) hr2 (slots E p ha ex (den_fl.mpr ⟨a, vs, rfl, ⟨od, upd_same⟩, (k2.back p lo).mono List.prefix_rfl ex⟩))
          · exact dull hP
        · rename_i xs hx
          split at hP
          · rename_i c
            intro et' H' σ' p e hr E
            obtain ⟨a, ha⟩ := hr.addr hx
            obtain ⟨ws, k1, k2, k3⟩ := hr.cell n _ a hx ha
            refine .inr ⟨a, .dK ws, k1, True.intro, fun od => ?_⟩
            have hr2 : HRel G et (h'.take h.length) (upd H' a (.frz od (.dK ws))) := HRel.lockNew (R0 := hH) hr p hx ha rfl k1 True.intro c.1 c.2.2
            have ex : Ext H' (upd H' a (.frz od (.dK ws))) := Ext.mut k1 True.intro
            have lo := c.2.1
            rw [← hH.len] at lo
            exact hP et _ σ' List.prefix_rfl (e.trans ex) hr2 (slots E p ha ex (den_fd.mpr ⟨a, ws, rfl, ⟨od, upd_same⟩, by rw [k2, List.map_map]; rfl, (k3.back p lo).mono List.prefix_rfl ex⟩))
          · exact dull hP
        · exact dull hP
      · exact dull hP
  refine thn (hs.run pins s σ H _ I ⟨et, env, h, hE, hH, main⟩) fun f s1 q => ?_
  cases f with
  | next =>
    obtain ⟨σ', H', I2, q⟩ := q
    rcases q with q | ⟨a, u, k1, mu, q⟩
    · exact ⟨σ', H', I2, q⟩
    · obtain ⟨od, I3⟩ := I2.lock k1 mu
      exact ⟨σ', _, I3, q od⟩
  | brk => exact q
  | cont => exact q
  | ret v => exact q⟩
end
end NR

set_option Elab.async false
set_option linter.all false
set_option maxRecDepth 100000
/-! Exceptions: raise, try .. except X (as e), isinstance of what is caught. -/
namespace NR
open PySem PySem.Spec PyProof.Rows L2
/-- classes by their names -/
def clOf (l : List (Str × Addr)) (s : Str) : Addr := (l.lookup s).getD 0
/-- ValueError, or an own class -/
def clV (cl : Str → Addr) (y : Str) : V := if y = "ValueError" then .ty "ValueError" else .ref (cl y)
def clU (cl : Str → Addr) (y : Str) : Value := if y = "ValueError" then .type "ValueError" else .ref (cl y)
abbrev CTab := List ((Str × Str) × Bool)
def CTab.get (t : CTab) (c y : Str) : Option Bool := t.lookup (c, y)
/-- an own class over ValueError, without __init__ -/
structure ExC1 (K : PySem.W.Frag) (mg : Str → Option Value) (x : Str) (C : Addr) : Prop where
  g : mg x = some (.ref C)
  q : PySem.W.excIn K C [.type "ValueError", .type "Exception", .type "BaseException", .type "object"] "ValueError.__new__" = true
  k : PySem.W.keepIn K (.ref C) = true
  b : PySem.W.subIn K (.ref C) (.type "BaseException") = some true
  t : PySem.W.typeIn K (.ref C) = some (.type "type")
  e : ExcC K C
/-- pairs of classes: is the one under the other (as a clause asks, as isinstance asks) -/
def ExH (K : PySem.W.Frag) (cl : Str → Addr) (t : CTab) : Prop := ∀ p ∈ t, PySem.W.exmOne K (.ref (cl p.1.1)) (clU cl p.1.2) = some p.2
def ExI (K : PySem.W.Frag) (cl : Str → Addr) (t : CTab) : Prop := ∀ p ∈ t, PySem.W.kitOne K (.ref (cl p.1.1)) (clU cl p.1.2) = some p.2 ∧ ExcC K (cl p.1.1)
theorem exH_nil {K : PySem.W.Frag} {cl : Str → Addr} : ExH K cl [] := fun _ h => by cases h
theorem exH_cons {K : PySem.W.Frag} {cl : Str → Addr} {t : CTab} {p : (Str × Str) × Bool} (h : PySem.W.exmOne K (.ref (cl p.1.1)) (clU cl p.1.2) = some p.2) (r : ExH K cl t) : ExH K cl (p :: t) := fun q hq => by
  rcases List.mem_cons.mp hq with rfl | hq
  · exact h
  · exact r q hq
theorem exI_nil {K : PySem.W.Frag} {cl : Str → Addr} : ExI K cl [] := fun _ h => by cases h
theorem exI_cons {K : PySem.W.Frag} {cl : Str → Addr} {t : CTab} {p : (Str × Str) × Bool} (h : PySem.W.kitOne K (.ref (cl p.1.1)) (clU cl p.1.2) = some p.2) (e : ExcC K (cl p.1.1)) (r : ExI K cl t) : ExI K cl (p :: t) := fun q hq => by
  rcases List.mem_cons.mp hq with rfl | hq
  · exact ⟨h, e⟩
  · exact r q hq
theorem CTab.mem : ∀ {t : CTab} {c y : Str} {b : Bool}, t.get c y = some b → ((c, y), b) ∈ t
  | [], _, _, _, h => by simp [CTab.get] at h
  | (k, v) :: t, c, y, b, h => by
    unfold CTab.get at h
    rw [List.lookup_cons] at h
    split at h
    · rename_i e
      cases h
      have := eq_of_beq e
      rw [← this]
      exact List.mem_cons_self
    · exact List.mem_cons_of_mem _ (CTab.mem (t := t) h)
theorem ExH.get {K : PySem.W.Frag} {cl : Str → Addr} {t : CTab} (x : ExH K cl t) {c y : Str} {b : Bool} (h : t.get c y = some b) : PySem.W.exmOne K (.ref (cl c)) (clU cl y) = some b := x _ (CTab.mem h)
theorem ExI.get {K : PySem.W.Frag} {cl : Str → Addr} {t : CTab} (x : ExI K cl t) {c y : Str} {b : Bool} (h : t.get c y = some b) : PySem.W.kitOne K (.ref (cl c)) (clU cl y) = some b ∧ ExcC K (cl c) := x _ (CTab.mem h)

theorem kit_ref {K : PySem.W.Frag} {C D : Addr} {b : Bool} (hdct : PySem.W.hasDictIn K C = true) (ht : PySem.W.typeIn K (.ref C) = some (.type "type")) (h : PySem.W.subIn K (.ref D) (.ref C) = some b) (h0 : PySem.W.subIn K (.ref C) (.ref C) = some true) : PySem.W.kitOne K (.ref D) (.ref C) = some b := by
  obtain ⟨cd, hc, _⟩ := PySem.W.any_some hdct
  unfold PySem.W.kitOne
  split
  · rename_i e
    have := eq_of_beq e
    cases this
    rw [h0] at h
    exact h
  · unfold PySem.W.kitCls
    dsimp only
    rw [hc, ht]
    exact h
theorem kit_val {K : PySem.W.Frag} {D : Addr} {b : Bool} (h : PySem.W.subIn K (.ref D) (.type "ValueError") = some b) : PySem.W.kitOne K (.ref D) (.type "ValueError") = some b := by
  unfold PySem.W.kitOne
  split
  · rename_i e
    have := eq_of_beq e
    cases this
  · unfold PySem.W.kitCls
    dsimp only
    rw [if_pos (by decide +kernel)]
    exact h
/-! ### raise -/
def msRaise (x : Str) : MS := fun env h => .ex x none env h
section
variable {X : Cx} {G : Cf} {W : WX}
theorem ms_raise {x m : Str} {j : Nat} {p p2 pos pos2 : Pos} (hc : X.calm = true) (tk : Takes X W) (F : ExC1 X.K X.mg x (G.C x)) (hg : Gl X x := by rfl) (hdb : (x == ("__debug__" : Str)) = false := by decide) :
    PS X (.Raise (some (.Call (.Name x p) [.Constant (.str m) j p2] [] pos)) none pos2) (tS G W (msRaise x)) :=
  PS.imp (ps_raise hc tk (pmk_own PySem.F.excBase_ValueError F.q F.g F.k (raises_own F.b F.t) hg hdb)) fun D σ H ⟨et, env, h, hE, hH, hP⟩ =>
    hP et H σ _ none List.prefix_rfl (Ext.refl H) hH hE ⟨rfl, rfl⟩
end
/-! ### isinstance in a suite -/
def rIsET (K : PySem.W.Frag) (D a : Addr) : List V → Hp → VK → Prop := fun xs H Q => ∃ (tp : Addr) (cs : List V) (us : List Value) (b : Bool), xs = [.ref a, .ref tp] ∧ H tp = some (.tup cs) ∧ Paired ClsV cs us ∧ PySem.W.kitAny K (.ref D) us = some b ∧ Q (.bl b) H
theorem call_isET {X : Cx} {a D : Addr} {oe : Obj} {pn : List (Addr × Obj)} (C : ExcC X.K D) (hz : Zc (.ref D) none oe) (hf : ∃ vs, oe.data = .fields vs) : CallR (X.suite a ((a, oe) :: pn)) (.builtin "isinstance") (rIsET X.K D a) := by
  intro pins s σ H xs us Q I r h
  obtain ⟨tp, cs, ws, b, rfl, hT, k, e, q⟩ := h
  obtain ⟨u1, u2, rfl, r1, r2⟩ := vals2 r
  cases (show u2 = Value.ref tp from r2)
  cases (show u1 = Value.ref a from r1)
  obtain ⟨hget, _⟩ := I.pin (a, oe) (List.mem_append.mpr (.inl List.mem_cons_self))
  obtain ⟨vs, hv⟩ := hf
  have J : PySem.W.InstAt s.heap a oe D none := by
    obtain ⟨oc, od, oda, osl⟩ := oe
    obtain ⟨h1, h2⟩ := hz
    dsimp only at h1 h2 hv
    subst h1 h2 hv
    exact ⟨hget, rfl, rfl, trivial⟩
  obtain ⟨_, its, rv, o, h1, h2, n, h3⟩ := (show ObjOk _ _ H s.heap tp (.tup cs) from I.hok tp _ hT)
  have e3 := ClsV.all k rv
  subst e3
  obtain ⟨oc, od, dt, sl⟩ := o
  simp only at h2 h3
  subst h2 h3
  exact PySem.W.kia_tup (PySem.W.handS_kitx_exc C.hg C.hk C.hs C.hd C.ha C.hn C.ht C.hm) I.kIn J h1 e (fun z => nomatch z) fun tk => ⟨.bl b, H, I.kept (t' := tk) fun _ _ z => z, rfl, q⟩
theorem pe_no {X : Cx} {G : Cf} {W : WX} {e : Expr} {m : ME} (h0 : ∀ env h, m env h = .no) : PE X e (tE G W m) := ⟨fun _ _ _ _ _ _ ⟨et, env, h, _, _, hP⟩ => by
  rw [h0] at hP
  exact hP.elim⟩
def mIsE (t : CTab) (c : Str) (a i : Nat) (y : Str) : ME := fun env h => match env[i]? with
  | some (some (.exc a')) => if a' = a then (match t.get c y with | some b => .ok (.bl b) h | none => .no) else .no
  | _ => .no
def mIsET (t : CTab) (c : Str) (a i : Nat) (ys : List Str) : ME := fun env h => match env[i]? with
  | some (some (.exc a')) => if a' = a then (match allM' (t.get c) ys with | some bs => .ok (.bl (bs.any id)) h | none => .no) else .no
  | _ => .no
where allM' (f : Str → Option Bool) : List Str → Option (List Bool)
  | [] => some []
  | y :: ys => match f y, allM' f ys with
    | some b, some bs => some (b :: bs)
    | _, _ => none
/-- the classes that a tuple names -/
inductive CNs (X : Cx) (cl : Str → Addr) : List Str → List Expr → Prop
  | nil : CNs X cl [] []
  | own {y : Str} {ys : List Str} {es : List Expr} {p : Pos} (hg : Gl X y) (hm : X.mg y = some (.ref (cl y))) (hn : y ≠ "ValueError") (hd : (y == ("__debug__" : Str)) = false) (h : CNs X cl ys es) : CNs X cl (y :: ys) (.Name y p :: es)
  | val {ys : List Str} {es : List Expr} {p : Pos} (hg : Gl X "ValueError") (hm : X.mg "ValueError" = none) (h : CNs X cl ys es) : CNs X cl ("ValueError" :: ys) (.Name "ValueError" p :: es)
section
variable {X : Cx} {cl : Str → Addr}
theorem clV_own {y : Str} (hn : y ≠ "ValueError") : clV cl y = .ref (cl y) := by unfold clV; rw [if_neg hn]
theorem clU_own {y : Str} (hn : y ≠ "ValueError") : clU cl y = .ref (cl y) := by unfold clU; rw [if_neg hn]
theorem clV_val : clV cl "ValueError" = .ty "ValueError" := if_pos rfl
theorem clU_val : clU cl "ValueError" = .type "ValueError" := if_pos rfl
theorem clV_U (y : Str) : ClsV (clV cl y) (clU cl y) := by
  unfold clV clU
  split
  · exact .ty _
  · exact .own _
theorem CNs.pa : ∀ {ys : List Str} {es : List Expr}, CNs X cl ys es → PA X es (fun _ H Q => Q (ys.map (clV cl)) H)
  | [], _, .nil => pa_nil
  | _ :: _, _, .own (y := y) hg hm hn hd h => ⟨fun pos pins s σ H Q I q => (pa_cons (pe_glob (v := .ref (cl y)) hg hm rfl hd) h.pa rfl).run pos pins s σ H Q I (by rw [List.map_cons, clV_own hn] at q; exact q)⟩
  | _ :: _, _, .val hg hm h => ⟨fun pos pins s σ H Q I q => (pa_cons (pe_bltn (v := .ty "ValueError") hg hm (by decide +kernel : bootBuiltins "ValueError" = some (.type "ValueError")) rfl) h.pa rfl).run pos pins s σ H Q I (by rw [List.map_cons, clV_val] at q; exact q)⟩
theorem CNs.len : ∀ {ys : List Str} {es : List Expr}, CNs X cl ys es → es.length = ys.length
  | [], _, .nil => rfl
  | _ :: _, _, .own _ _ _ _ h => by simp [h.len]
  | _ :: _, _, .val _ _ h => by simp [h.len]
theorem paired_cls : ∀ ys : List Str, Paired ClsV (ys.map (clV cl)) (ys.map (clU cl))
  | [] => .nil
  | y :: ys => .cons (clV_U y) (paired_cls ys)
theorem kitAny_of {K : PySem.W.Frag} {t : CTab} {c : Str} (F : ExI K cl t) : ∀ {ys : List Str} {bs : List Bool}, mIsET.allM' (t.get c) ys = some bs → PySem.W.kitAny K (.ref (cl c)) (ys.map (clU cl)) = some (bs.any id)
  | [], bs, e => by
    simp only [mIsET.allM', Option.some.injEq] at e
    subst e
    rfl
  | y :: ys, bs, e => by
    unfold mIsET.allM' at e
    split at e
    · rename_i b bs' e1 e2
      cases e
      rw [List.map_cons]
      unfold PySem.W.kitAny
      rw [(F.get e1).1]
      cases b with
      | true => simp
      | false =>
        dsimp only
        rw [kitAny_of F e2]
        simp
    · cases e
end
section
variable {X : Cx} {G : Cf} {W : WX} {a : Addr} {oe : Obj} {pn : List (Addr × Obj)} {p p1 p2 pos : Pos}
theorem me_isE {t : CTab} {c y n : Str} (i : Nat) (hz : Zc (.ref (G.C c)) none oe) (hf : ∃ vs, oe.data = .fields vs) (F : ExI X.K G.C t) (hm : X.mg "isinstance" = none) (hy : CNs (X.suite a ((a, oe) :: pn)) G.C [y] [.Name y p2])
    (hN : X.N[i]? = some n := by rfl) (hv : Vis X.env.scope n := by first | exact Or.inl rfl | exact Or.inr (Or.inl rfl) | exact Or.inr (Or.inr rfl)) (hg : Gl X "isinstance" := by rfl) (hd : (n == ("__debug__" : Str)) = false := by decide) (hcd : (n == ("__classdict__" : Str)) = false := by decide) (hb : bootBuiltins "isinstance" = some (.builtin "isinstance") := by decide +kernel)
    (hs1 : starEach [.Name n p1, .Name y p2] X.env = (false, eval (.Name n p1) X.env) :: starEach [.Name y p2] X.env := by rfl) (hpl : (backTo pos (starEach [.Name y p2] X.env)).any (·.1) = false := by rfl) :
    PE (X.suite a ((a, oe) :: pn)) (.Call (.Name "isinstance" p) [.Name n p1, .Name y p2] [] pos) (tE G W (mIsE t c a i y)) := by
  cases hg0 : t.get c y with
  | none =>
    refine pe_no fun env h => ?_
    unfold mIsE
    split
    · split
      · rw [hg0]
      · rfl
    · rfl
  | some b0 =>
  have C := (F.get hg0).2
  exact PE.imp (pe_callB (X := X.suite a ((a, oe) :: pn)) (call_isE C hz hf) hg hm hb (pa_cons (pe_var (X := X.suite a ((a, oe) :: pn)) hN hv hd hcd) hy.pa hs1) (by decide) (by decide) hs1 hpl) fun σ H Q ⟨et, env, h, hE, hH, hP⟩ => by
    unfold mIsE at hP
    split at hP
    · rename_i a' ha
      obtain ⟨v, e1, r⟩ := hE.2 i _ ha
      have ev : v = .ref a' := by simpa [Den] using r
      subst ev
      split at hP
      · rename_i ea
        subst ea
        split at hP
        · rename_i b hb
          exact ⟨_, e1, clV G.C y, clU G.C y, b, rfl, fun u ru => ClsV.eq (clV_U y) ru, (F.get hb).1, hP.here hH _ (by simp)⟩
        · exact hP.elim
      · exact hP.elim
    · exact hP.elim
theorem me_isET {t : CTab} {c n : Str} {ys : List Str} {es : List Expr} {k : Nat} (i : Nat) (hz : Zc (.ref (G.C c)) none oe) (hf : ∃ vs, oe.data = .fields vs) (F : ExI X.K G.C t) (hm : X.mg "isinstance" = none) (hy : CNs (X.suite a ((a, oe) :: pn)) G.C ys es)
    (hN : X.N[i]? = some n := by rfl) (hv : Vis X.env.scope n := by first | exact Or.inl rfl | exact Or.inr (Or.inl rfl) | exact Or.inr (Or.inr rfl)) (hl : ys.length ≤ 1000 := by decide) (hl0 : ys.length ≠ 0 := by decide) (hg : Gl X "isinstance" := by rfl) (hd : (n == ("__debug__" : Str)) = false := by decide) (hcd : (n == ("__classdict__" : Str)) = false := by decide) (hb : bootBuiltins "isinstance" = some (.builtin "isinstance") := by decide +kernel)
    (hs1 : starEach [.Name n p1, .Tuple es k p2] X.env = (false, eval (.Name n p1) X.env) :: starEach [.Tuple es k p2] X.env := by rfl) (hs2 : starEach [.Tuple es k p2] X.env = (false, eval (.Tuple es k p2) X.env) :: starEach [] X.env := by rfl) (hpl : (backTo pos (starEach [.Tuple es k p2] X.env)).any (·.1) = false := by rfl) :
    PE (X.suite a ((a, oe) :: pn)) (.Call (.Name "isinstance" p) [.Name n p1, .Tuple es k p2] [] pos) (tE G W (mIsET t c a i ys)) := by
  cases hg0 : mIsET.allM' (t.get c) ys with
  | none =>
    refine pe_no fun env h => ?_
    unfold mIsET
    split
    · split
      · rw [hg0]
      · rfl
    · rfl
  | some bs0 =>
  rcases Nat.eq_zero_or_pos ys.length with h0 | h0
  · exact absurd h0 hl0
  have C : ExcC X.K (G.C c) := by
    cases ys with
    | nil => exact absurd rfl hl0
    | cons y ys =>
      unfold mIsET.allM' at hg0
      split at hg0
      · rename_i b bs e1 e2
        exact (F.get e1).2
      · cases hg0
  exact PE.imp (pe_callB (X := X.suite a ((a, oe) :: pn)) (call_isET C hz hf) hg hm hb (pa_cons (pe_var (X := X.suite a ((a, oe) :: pn)) hN hv hd hcd) (pa_cons (pe_tup hy.pa) pa_nil hs2) hs1) (by decide) (by decide) hs1 hpl) fun σ H Q ⟨et, env, h, hE, hH, hP⟩ => by
    unfold mIsET at hP
    split at hP
    · rename_i a' ha
      obtain ⟨v, e1, r⟩ := hE.2 i _ ha
      have ev : v = .ref a' := by simpa [Den] using r
      subst ev
      split at hP
      · rename_i ea
        subst ea
        split at hP
        · rename_i bs hb
          refine ⟨_, e1, sz (by rw [List.length_map]; omega), fun tp htp => ?_⟩
          exact ⟨tp, _, _, _, rfl, upd_same, paired_cls ys, kitAny_of F hb, hP et (upd H tp (.tup _)) List.prefix_rfl (Ext.new htp) (hH.new htp) _ (by simp)⟩
        · exact hP.elim
      · exact hP.elim
    · exact hP.elim
end
/-! ### try -/
def RS.unset (i : Nat) : RS → RS
  | .nx e h => .nx (e.set i none) h
  | .bk e h => .bk (e.set i none) h
  | .ct e h => .ct (e.set i none) h
  | .rt d h => .rt d h
  | .ex _ _ _ _ => .no
  | .no => .no
def RS.calm : RS → RS
  | .ex _ _ _ _ => .no
  | r => r
open Classical in
/-- the same whatever the number is -/
noncomputable def anyA (F : Nat → RS) : RS := if e : ∃ r, ∀ a, F a = r then choose e else .no
theorem anyA_eq {F : Nat → RS} {r : RS} (e : ∀ a, F a = r) : anyA F = r := by
  have ex : ∃ r, ∀ a, F a = r := ⟨r, e⟩
  unfold anyA
  rw [dif_pos ex]
  exact ((Classical.choose_spec ex 0).symm.trans (e 0))
theorem anyA_or (F : Nat → RS) : (∀ a, F a = anyA F) ∨ anyA F = .no := by
  by_cases e : ∃ r, ∀ a, F a = r
  · unfold anyA
    rw [dif_pos e]
    exact .inl (Classical.choose_spec e)
  · unfold anyA
    rw [dif_neg e]
    exact .inr rfl
/-- try: body except y as (slot i): suite -/
noncomputable def msTryAs (t : CTab) (y : Str) (i : Nat) (body : MS) (suite : Str → Nat → MS) : MS := fun env h => match body env h with
  | .ex c none e h1 => match t.get c y with
    | some true => anyA fun a => RS.unset i (suite c a (e.set i (some (.exc a))) h1)
    | some false => .ex c none e h1
    | none => .no
  | .ex _ _ _ _ => .no
  | r => r
def msTry (t : CTab) (y : Str) (body : MS) (suite : Str → MS) : MS := fun env h => match body env h with
  | .ex c none e h1 => match t.get c y with
    | some true => RS.calm (suite c e h1)
    | some false => .ex c none e h1
    | none => .no
  | .ex _ _ _ _ => .no
  | r => r
theorem EnvR.unset {G : Cf} {et : List Addr} {H : Hp} {env : EV} {σ : L2.St} (x : EnvR G et H env σ) (i : Nat) (v : Option V) : EnvR G et H (env.set i none) (σ.set i v) := by
  refine ⟨by simp [x.1], fun j d q => ?_⟩
  by_cases hj : i = j
  · subst hj
    by_cases hl : i < env.length
    · rw [List.getElem?_set_self hl] at q
      cases q
    · rw [List.getElem?_eq_none (by simp; omega)] at q
      cases q
  · rw [List.getElem?_set_ne hj] at q
    obtain ⟨v, e1, r⟩ := x.2 j d q
    exact ⟨v, by rw [List.getElem?_set_ne hj]; exact e1, r⟩
section
variable {X : Cx} {G : Cf} {W : WX} {body suite : List Stmt} {b₀ : Stmt} {np pos pos' : Pos}
theorem ms_tryAs {t : CTab} {y n : Str} (i : Nat) {mb : MS} {ms : Str → Nat → MS} (hs : X.stack = X.env :: X.outer) (hf : X.env.frame = some X.env.locals) (hN : X.N.Nodup) (F : ExH X.K G.C t) (hm : X.mg y = some (.ref (G.C y))) (tk : Takes X W)
    (hb : ∀ (W : WX) (pn : List (Addr × Obj)) (xe : Value → Shared → Prop), Takes (X.tr pn xe) W → PassesOwn (model X.prog X.w) X.A X.env xe → PSs (X.tr pn xe) body (tS G W mb))
    (hsu : ∀ (c : Str) (a : Addr) (oe : Obj) (pn : List (Addr × Obj)), Zc (.ref (G.C c)) none oe → (∃ vs, oe.data = .fields vs) → PSs (X.suite a ((a, oe) :: pn)) (b₀ :: suite) (tS G W0 (ms c a)))
    (hi : X.N[i]? = some n := by rfl) (hln : X.env.kindOf n = some .local := by rfl) (hg : Gl X y := by rfl) (hn : y ≠ "ValueError" := by decide) (hd : (y == ("__debug__" : Str)) = false := by decide) :
    PS X (.Try body [.ExceptHandler (some (.Name y np)) (some n) (b₀ :: suite) pos'] [] [] pos) (tS G W (msTryAs t y i mb ms)) := by
  refine PS.imp (ps_try_as (i := i) (tb := fun W => tS G W mb) (ts := fun a cls d D σ H => ∃ c, cls = .ref (G.C c) ∧ d = none ∧ tS G W0 (ms c a) D σ H) (Wout := W) hs hf hN hi hln ⟨hg, hd, .inl hm⟩ tk hb
    (fun a oe cls d pn hz hf => ⟨fun pins s σ H D I ⟨c, h1, h2, r⟩ => by subst h1 h2; exact (hsu c a oe pn hz hf).run pins s σ H D I r⟩)) fun D σ H ⟨et, env, h, hE, hH, hP⟩ => ⟨et, env, h, hE, hH, ?_⟩
  unfold msTryAs at hP
  revert hP
  cases mb env h with
  | no => exact fun z => z
  | nx e h1 => exact fun z => z
  | rt e h1 => exact fun z => z
  | bk e h1 => exact fun z => z
  | ct e h1 => exact fun z => z
  | ex c d e h1 =>
    cases d with
    | some fs => exact fun z => z.elim
    | none =>
      intro hP et' H' σ' cls dd p ex hr hE' hx
      obtain ⟨rfl, hdd⟩ := hx
      have hdd : dd = none := hdd
      subst hdd
      dsimp only at hP
      cases ht : t.get c y with
      | none => rw [ht] at hP; exact hP.elim
      | some b =>
        rw [ht] at hP
        refine ⟨b, by have := F.get ht; rw [clU_own hn] at this; exact this, fun hb a _ => ?_, fun hb => ?_⟩
        · subst hb
          dsimp only at hP
          refine ⟨c, rfl, rfl, et', e.set i (some (.exc a)), h1, hE'.set i (by simp [Den]), hr, ?_⟩
          have q := PstS.weak p ex hP
          rcases anyA_or (fun a => RS.unset i (ms c a (e.set i (some (.exc a))) h1)) with z | z
          · rw [← z a] at q
            revert q
            cases ms c a (e.set i (some (.exc a))) h1 with
            | no => exact fun z => z
            | rt d h2 => exact fun z => z
            | ex _ _ _ _ => exact fun z => z.elim
            | nx e2 h2 => exact fun q et1 H1 σ1 p1 e1 r1 E1 => q et1 H1 _ p1 e1 r1 (E1.unset i none)
            | bk e2 h2 => exact fun q et1 H1 σ1 p1 e1 r1 E1 => q et1 H1 _ p1 e1 r1 (E1.unset i none)
            | ct e2 h2 => exact fun q et1 H1 σ1 p1 e1 r1 E1 => q et1 H1 _ p1 e1 r1 (E1.unset i none)
          · rw [z] at q
            exact q.elim
        · subst hb
          exact hP et' H' σ' _ none p ex hr hE' ⟨rfl, rfl⟩
theorem ms_try {t : CTab} {y : Str} {mb : MS} {ms : Str → MS} (hs : X.stack = X.env :: X.outer) (hf : X.env.frame = some X.env.locals) (F : ExH X.K G.C t) (hm : X.mg y = some (.ref (G.C y))) (tk : Takes X W)
    (hb : ∀ (W : WX) (pn : List (Addr × Obj)) (xe : Value → Shared → Prop), Takes (X.tr pn xe) W → PassesOwn (model X.prog X.w) X.A X.env xe → PSs (X.tr pn xe) body (tS G W mb))
    (hsu : ∀ (c : Str) (a : Addr) (oe : Obj) (pn : List (Addr × Obj)), Zc (.ref (G.C c)) none oe → (∃ vs, oe.data = .fields vs) → PSs (X.suite a ((a, oe) :: pn)) (b₀ :: suite) (tS G W0 (ms c)))
    (hg : Gl X y := by rfl) (hn : y ≠ "ValueError" := by decide) (hd : (y == ("__debug__" : Str)) = false := by decide) :
    PS X (.Try body [.ExceptHandler (some (.Name y np)) none (b₀ :: suite) pos'] [] [] pos) (tS G W (msTry t y mb ms)) := by
  refine PS.imp (ps_try_only (tb := fun W => tS G W mb) (ts := fun a cls d D σ H => ∃ c, cls = .ref (G.C c) ∧ d = none ∧ tS G W0 (ms c) D σ H) (Wout := W) hs hf ⟨hg, hd, .inl hm⟩ tk hb
    (fun a oe cls d pn hz hf => ⟨fun pins s σ H D I ⟨c, h1, h2, r⟩ => by subst h1 h2; exact (hsu c a oe pn hz hf).run pins s σ H D I r⟩)) fun D σ H ⟨et, env, h, hE, hH, hP⟩ => ⟨et, env, h, hE, hH, ?_⟩
  unfold msTry at hP
  revert hP
  cases mb env h with
  | no => exact fun z => z
  | nx e h1 => exact fun z => z
  | rt e h1 => exact fun z => z
  | bk e h1 => exact fun z => z
  | ct e h1 => exact fun z => z
  | ex c d e h1 =>
    cases d with
    | some fs => exact fun z => z.elim
    | none =>
      intro hP et' H' σ' cls dd p ex hr hE' hx
      obtain ⟨rfl, hdd⟩ := hx
      have hdd : dd = none := hdd
      subst hdd
      dsimp only at hP
      cases ht : t.get c y with
      | none => rw [ht] at hP; exact hP.elim
      | some b =>
        rw [ht] at hP
        refine ⟨b, by have := F.get ht; rw [clU_own hn] at this; exact this, fun hb a _ => ?_, fun hb => ?_⟩
        · subst hb
          dsimp only at hP
          refine ⟨c, rfl, rfl, et', e, h1, hE', hr, ?_⟩
          have q := PstS.weak p ex hP
          revert q
          cases ms c e h1 with
          | ex _ _ _ _ => exact fun z => z.elim
          | _ => exact fun z => z
        · subst hb
          exact hP et' H' σ' _ none p ex hr hE' ⟨rfl, rfl⟩
end
end NR

set_option Elab.async false
set_option linter.all false
set_option maxRecDepth 100000
/-! sorted, max, min of a list; pop, index; methods without arguments; one of two readings. -/
namespace NR
open PySem PySem.Spec PyProof.Rows L2
def relabelS (scope sc : Scope) : Scope :=
  { scope with names := scope.names.map fun (n, k) => if (k == .free && sc.kind == .function && sc.names.lookup n == some .cell) then (n, .cell) else (n, k) }
/-- a comprehension within another one -/
theorem blkOk_in {N : List Str} {outer sc scope : Scope} {env : PySem.Env} {own : List (Str × Nat)} (hs : env.scope = sc) (h : blkC N (relabelS outer sc) scope own = true) : BlkOk N (relabel outer env) scope own := by
  have e : relabel outer env = relabelS outer sc := by subst hs; rfl
  rw [e]
  exact blkOk_by h
/-- one of two readings of an expression -/
def mOrE (m1 m2 : ME) : ME := fun env h => match m1 env h with
  | .no => m2 env h
  | r => r
section
variable {X : Cx} {G : Cf} {W : WX} {e o : Expr} {m1 m2 mo : ME} {name : Str} {apos cpos : Pos} {T id : String} {r : V → List V → Hp → VK → Prop} {f : D → List D → IH → R D}
theorem me_orE (h1 : PE X e (tE G W m1)) (h2 : PE X e (tE G W m2)) : PE X e (tE G W (mOrE m1 m2)) := ⟨fun pins s σ H Q I ⟨et, env, h, hE, hH, hP⟩ => by
  unfold mOrE at hP
  cases e1 : m1 env h with
  | no =>
    rw [e1] at hP
    exact h2.run pins s σ H Q I ⟨et, env, h, hE, hH, hP⟩
  | ok d h' => rw [e1] at hP; exact h1.run pins s σ H Q I ⟨et, env, h, hE, hH, by rw [e1]; exact hP⟩
  | ex c d h' => rw [e1] at hP; exact h1.run pins s σ H Q I ⟨et, env, h, hE, hH, by rw [e1]; exact hP⟩⟩
/-- a method without arguments -/
def mMeth0 (T : String) (f : D → List D → IH → R D) (mo : ME) : ME := fun env h => (mo env h).bind fun x h1 => if tyD T h1 x = true then f x [] h1 else .no
theorem me_meth0 (hK : X.K = G.K) (pa : PlainAttrs T) (slot : Slot T name id) (hty : typeOf (.builtin id) = pure (.type "method_descriptor")) (hm : MtR X id r) (hs : MethS G r f) (ho : PE X o (tE G W mo))
    (hbase : attributeBase o name X.env (eval o X.env) = eval o X.env := by rfl) (hline : (apos.endLine == cpos.line) = true := by rfl) :
    PE X (.Call (.Attribute o name apos) [] [] cpos) (tE G W (mMeth0 T f mo)) := PE.imp (pe_bm0 pa slot hty hm ho hbase hline) fun σ H Q ⟨et, env, h, hE, hH, hP⟩ => by
  refine ⟨et, env, h, hE, hH, (Pst.of_bind hP).imp fun et1 H1 h1 x p e hr q v hv => ?_⟩
  split at q
  · rename_i ht
    rw [hK]
    exact ⟨tyD_ok hr ht hv, hs et1 H1 h1 x v [] [] _ Q hv (by simp) hr q⟩
  · exact q.elim
end
def isrt (ns : List Int) : List Int := ns.mergeSort (fun a b => decide (a ≤ b))
theorem isrt_perm (ns : List Int) : (isrt ns).Perm ns := List.mergeSort_perm _ _
theorem isrt_sorted (ns : List Int) : (isrt ns).Pairwise (· ≤ ·) := by
  have := List.pairwise_mergeSort (le := fun a b : Int => decide (a ≤ b)) (fun a b c h1 h2 => by simp at *; omega) (fun a b => by simp; omega) ns
  exact this.imp (by simp)
theorem isrt_eq {ns ms : List Int} (p : ms.Perm ns) (s : ms.Pairwise (· ≤ ·)) : ms = isrt ns :=
  List.Perm.eq_of_pairwise (fun _ _ _ _ a b => Int.le_antisymm a b) s (isrt_sorted ns) (p.trans (isrt_perm ns).symm)
def bSorted : List D → IH → R D
  | [x], h => match (lstOf h x).bind (allM D.int?) with
    | some ns => .ok (.ref h.length) (h ++ [.lst ((isrt ns).map D.int)])
    | none => .no
  | _, _ => .no
def imax : List Int → Int
  | [] => 0
  | x :: xs => xs.foldl (fun a b => if b > a then b else a) x
def imin : List Int → Int
  | [] => 0
  | x :: xs => xs.foldl (fun a b => if b < a then b else a) x
theorem imax_go : ∀ (xs : List Int) (x : Int), xs.foldl (fun a b => if b > a then b else a) x ∈ x :: xs ∧ ∀ y ∈ x :: xs, y ≤ xs.foldl (fun a b => if b > a then b else a) x
  | [], x => by simp
  | z :: xs, x => by
    obtain ⟨h1, h2⟩ := imax_go xs (if z > x then z else x)
    rw [List.foldl_cons]
    generalize xs.foldl (fun a b => if b > a then b else a) (if z > x then z else x) = F at *
    refine ⟨?_, fun y hy => ?_⟩
    · rcases List.mem_cons.mp h1 with h | h
      · rw [h]; split <;> simp
      · exact List.mem_cons_of_mem _ (List.mem_cons_of_mem _ h)
    · have h3 := h2 _ List.mem_cons_self
      rcases List.mem_cons.mp hy with rfl | hy
      · split at h3 <;> omega
      · rcases List.mem_cons.mp hy with rfl | hy
        · split at h3 <;> omega
        · exact h2 y (List.mem_cons_of_mem _ hy)
theorem imin_go : ∀ (xs : List Int) (x : Int), xs.foldl (fun a b => if b < a then b else a) x ∈ x :: xs ∧ ∀ y ∈ x :: xs, xs.foldl (fun a b => if b < a then b else a) x ≤ y
  | [], x => by simp
  | z :: xs, x => by
    obtain ⟨h1, h2⟩ := imin_go xs (if z < x then z else x)
    rw [List.foldl_cons]
    generalize xs.foldl (fun a b => if b < a then b else a) (if z < x then z else x) = F at *
    refine ⟨?_, fun y hy => ?_⟩
    · rcases List.mem_cons.mp h1 with h | h
      · rw [h]; split <;> simp
      · exact List.mem_cons_of_mem _ (List.mem_cons_of_mem _ h)
    · have h3 := h2 _ List.mem_cons_self
      rcases List.mem_cons.mp hy with rfl | hy
      · split at h3 <;> omega
      · rcases List.mem_cons.mp hy with rfl | hy
        · split at h3 <;> omega
        · exact h2 y (List.mem_cons_of_mem _ hy)
theorem imax_mem {ns : List Int} (h : 0 < ns.length) : imax ns ∈ ns := by
  cases ns with
  | nil => simp at h
  | cons x xs => exact (imax_go xs x).1
theorem imax_le {ns : List Int} {y : Int} (h : y ∈ ns) : y ≤ imax ns := by
  cases ns with
  | nil => cases h
  | cons x xs => exact (imax_go xs x).2 y h
theorem imin_mem {ns : List Int} (h : 0 < ns.length) : imin ns ∈ ns := by
  cases ns with
  | nil => simp at h
  | cons x xs => exact (imin_go xs x).1
theorem imin_le {ns : List Int} {y : Int} (h : y ∈ ns) : imin ns ≤ y := by
  cases ns with
  | nil => cases h
  | cons x xs => exact (imin_go xs x).2 y h
def bMax1 : List D → IH → R D
  | [x], h => match (lstOf h x).bind (allM D.int?) with
    | some ns => if 0 < ns.length then .ok (.int (imax ns)) h else .no
    | none => .no
  | _, _ => .no
def bMin1 : List D → IH → R D
  | [x], h => match (lstOf h x).bind (allM D.int?) with
    | some ns => if 0 < ns.length then .ok (.int (imin ns)) h else .no
    | none => .no
  | _, _ => .no
def fPop0 : D → List D → IH → R D
  | .ref n, [], h => match h[n]? with
    | some (.lst xs) => match xs[xs.length - 1]? with
      | some y => .ok y (h.set n (.lst xs.dropLast))
      | none => .no
    | _ => .no
  | _, _, _ => .no
def fPopAt : D → List D → IH → R D
  | .ref n, [.int i], h => match h[n]? with
    | some (.lst xs) => match ixN xs.length i with
      | some k => match xs[k]? with
        | some y => if -(2 ^ 63) ≤ i ∧ i < 2 ^ 63 then .ok y (h.set n (.lst (xs.eraseIdx k))) else .no
        | none => .no
      | none => .no
    | _ => .no
  | _, _, _ => .no
def fClear : D → List D → IH → R D
  | .ref n, [], h => match h[n]? with
    | some (.lst xs) => .ok .non (h.set n (.lst []))
    | _ => .no
  | _, _, _ => .no
/-- the first place in a list of ints, of texts -/
def fIndexL : D → List D → IH → R D
  | x, [.int y], h => match (lstOf h x).bind (allM D.int?) with
    | some ns => if y ∈ ns then .ok (.int (ns.idxOf y : Nat)) h else .no
    | none => .no
  | x, [.str y], h => match (lstOf h x).bind (allM D.str?) with
    | some ns => if y ∈ ns then .ok (.int (ns.idxOf y : Nat)) h else .no
    | none => .no
  | _, _, _ => .no
section
variable {G : Cf}
theorem ints_den {et : List Addr} {H : Hp} {h : IH} {x : D} {v : V} {ns : List Int} (R : HRel G et h H) (e : (lstOf h x).bind (allM D.int?) = some ns) (r : Den G et H x v) : ∃ a, v = .ref a ∧ SqL G.K H a (ns.map V.int) := by
  simp only [Option.bind_eq_some_iff] at e
  obtain ⟨xs, e1, e2⟩ := e
  obtain ⟨a, vs, rfl, h1, h2⟩ := lst_ok R e1 r
  rw [allM_ints e2] at h2
  rw [h2.ints] at h1
  exact ⟨a, rfl, h1⟩
theorem strs_den {et : List Addr} {H : Hp} {h : IH} {x : D} {v : V} {ns : List (List Nat)} (R : HRel G et h H) (e : (lstOf h x).bind (allM D.str?) = some ns) (r : Den G et H x v) : ∃ a, v = .ref a ∧ SqL G.K H a ((ns.map strV).map V.str) := by
  simp only [Option.bind_eq_some_iff] at e
  obtain ⟨xs, e1, e2⟩ := e
  obtain ⟨a, vs, rfl, h1, h2⟩ := lst_ok R e1 r
  rw [allM_strs e2] at h2
  rw [h2.strs] at h1
  exact ⟨a, rfl, h1⟩
theorem bSorted_ok : CallS G (rSortedI G.K) bSorted := by
  intro et H h xs vs W Q rv R p
  unfold bSorted at p
  split at p
  · split at p
    · rename_i x ns e
      obtain ⟨v, rfl, r⟩ := list1 rv
      obtain ⟨a, rfl, hs⟩ := ints_den R e r
      refine ⟨a, ns, rfl, hs, fun ns' q pm so hq => ?_⟩
      rw [isrt_eq pm so]
      exact p.newL R DenL.ofInts q hq
    · exact p.elim
  · exact p.elim
theorem bMax1_ok : CallS G (rMax G.K) bMax1 := by
  intro et H h xs vs W Q rv R p
  unfold bMax1 at p
  split at p
  · split at p
    · rename_i x ns e
      split at p
      · rename_i c
        obtain ⟨v, rfl, r⟩ := list1 rv
        obtain ⟨a, rfl, hs⟩ := ints_den R e r
        refine ⟨a, ns, rfl, hs, c, fun m hm hle => ?_⟩
        have : m = imax ns := Int.le_antisymm (imax_le hm) (hle _ (imax_mem c))
        subst this
        exact p.here R _ (by simp)
      · exact p.elim
    · exact p.elim
  · exact p.elim
theorem bMin1_ok : CallS G (rMin G.K) bMin1 := by
  intro et H h xs vs W Q rv R p
  unfold bMin1 at p
  split at p
  · split at p
    · rename_i x ns e
      split at p
      · rename_i c
        obtain ⟨v, rfl, r⟩ := list1 rv
        obtain ⟨a, rfl, hs⟩ := ints_den R e r
        refine ⟨a, ns, rfl, hs, c, fun m hm hle => ?_⟩
        have : m = imin ns := Int.le_antisymm (hle _ (imin_mem c)) (imin_le hm)
        subst this
        exact p.here R _ (by simp)
      · exact p.elim
    · exact p.elim
  · exact p.elim
theorem DenL.dropLast {et : List Addr} {H : Hp} {ds : List D} {vs : List V} (h : DenL G et H ds vs) : DenL G et H ds.dropLast vs.dropLast := by
  rw [List.dropLast_eq_take, List.dropLast_eq_take, h.len]
  exact h.take _
theorem DenL.eraseIdx {et : List Addr} {H : Hp} {ds : List D} {vs : List V} (h : DenL G et H ds vs) (k : Nat) : DenL G et H (ds.eraseIdx k) (vs.eraseIdx k) := by
  rw [List.eraseIdx_eq_take_drop_succ, List.eraseIdx_eq_take_drop_succ]
  exact (h.take _).app (h.drop _)
theorem fPop0_ok : MethS G rPop fPop0 := by
  intro et H h x v xs vs W Q rx rv R p
  unfold fPop0 at p
  split at p
  · split at p
    · rename_i n _ ys hx
      split at p
      · rename_i y hy
        obtain ⟨a, us, h2, rfl, h3, h4⟩ := den_list R hx rx
        obtain ⟨w, e1, r1⟩ := h4.get hy
        refine ⟨a, us, w, rfl, by simpa using rv, h3, by rw [h4.len]; exact e1, ?_⟩
        have ex : Ext H (upd H a (.lst us.dropLast)) := Ext.mut h3 True.intro
        exact p et _ List.prefix_rfl ex (R.set hx h2 rfl h3 True.intro ⟨_, upd_same, (h4.dropLast).mono List.prefix_rfl ex⟩) _ (r1.mono List.prefix_rfl ex)
      · exact p.elim
    · exact p.elim
  · exact p.elim
theorem fPopAt_ok : MethS G rPopAt fPopAt := by
  intro et H h x v xs vs W Q rx rv R p
  unfold fPopAt at p
  split at p
  · split at p
    · rename_i n i _ ys hx
      split at p
      · rename_i k hk
        split at p
        · rename_i y hy
          split at p
          · rename_i c
            obtain ⟨w, rfl, h1⟩ := list1 rv
            obtain ⟨a, us, h2, rfl, h3, h4⟩ := den_list R hx rx
            obtain ⟨w2, e1, r1⟩ := h4.get hy
            refine ⟨a, us, i, k, w2, rfl, by rw [den_int.mp h1], h3, c.1, c.2, by rw [h4.len]; exact (ixN_seq hk).1, e1, ?_⟩
            have ex : Ext H (upd H a (.lst (us.eraseIdx k))) := Ext.mut h3 True.intro
            exact p et _ List.prefix_rfl ex (R.set hx h2 rfl h3 True.intro ⟨_, upd_same, (h4.eraseIdx k).mono List.prefix_rfl ex⟩) _ (r1.mono List.prefix_rfl ex)
          · exact p.elim
        · exact p.elim
      · exact p.elim
    · exact p.elim
  · exact p.elim
theorem idx_first {A : Type} [BEq A] [LawfulBEq A] : ∀ {ns : List A} {y : A}, y ∈ ns → ns[ns.idxOf y]? = some y ∧ ∀ m z, m < ns.idxOf y → ns[m]? = some z → (z == y) = false
  | [], _, h => by cases h
  | n :: ns, y, h => by
    by_cases e : n = y
    · subst e
      rw [List.idxOf_cons_self]
      exact ⟨rfl, fun m z hm => absurd hm (Nat.not_lt_zero m)⟩
    · have e' : (n == y) = false := beq_eq_false_iff_ne.mpr e
      rw [List.idxOf_cons, e']
      have hm : y ∈ ns := by
        rcases List.mem_cons.mp h with h | h
        · exact absurd h.symm e
        · exact h
      obtain ⟨h1, h2⟩ := idx_first hm
      refine ⟨by simpa using h1, fun m z hm hz => ?_⟩
      cases m with
      | zero => simp at hz; subst hz; exact e'
      | succ m => exact h2 m z (by simpa using hm) (by simpa using hz)
theorem fIndexL_ok : MethS G (rIndex G.K) fIndexL := by
  intro et H h x v xs vs W Q rx rv R p
  unfold fIndexL at p
  split at p
  · rename_i y
    split at p
    · rename_i ns e
      split at p
      · rename_i c
        obtain ⟨w, rfl, h1⟩ := list1 rv
        obtain ⟨a, rfl, hs⟩ := ints_den R e rx
        obtain ⟨q1, q2⟩ := idx_first c
        refine ⟨a, _, w, ns.idxOf y, .int y, rfl, rfl, hs, by rw [den_int.mp h1]; rfl, ?_, by rw [List.getElem?_map, q1]; rfl, by rw [den_int.mp h1]; simp [eqV], fun m z' hm hz => ?_, p.here R _ (by simp)⟩
        · simp [flatV]
        · rw [List.getElem?_map] at hz
          cases hn : ns[m]? with
          | none => rw [hn] at hz; cases hz
          | some z0 =>
            rw [hn] at hz
            cases hz
            rw [den_int.mp h1]
            exact q2 m z0 hm hn
      · exact p.elim
    · exact p.elim
  · rename_i y
    split at p
    · rename_i ns e
      split at p
      · rename_i c
        obtain ⟨w, rfl, h1⟩ := list1 rv
        obtain ⟨a, rfl, hs⟩ := strs_den R e rx
        obtain ⟨q1, q2⟩ := idx_first c
        refine ⟨a, _, w, ns.idxOf y, .str (strV y), rfl, rfl, hs, by rw [den_str.mp h1]; rfl, ?_, by rw [List.getElem?_map, List.getElem?_map, q1]; rfl, by rw [den_str.mp h1]; simp [eqV], fun m z' hm hz => ?_, p.here R _ (by simp)⟩
        · simp [flatV]
        · rw [List.getElem?_map, List.getElem?_map] at hz
          cases hn : ns[m]? with
          | none => rw [hn] at hz; cases hz
          | some z0 =>
            rw [hn] at hz
            cases hz
            rw [den_str.mp h1]
            have := q2 m z0 hm hn
            exact beq_eq_false_iff_ne.mpr fun z => (beq_eq_false_iff_ne.mp this) (strV_inj z)
      · exact p.elim
    · exact p.elim
  · exact p.elim
end
end NR

set_option Elab.async false
set_option linter.all false
set_option maxRecDepth 100000
/-! zip and enumerate over whatever is not written: lists, tuples, texts, mixed. -/
namespace NR
open PySem PySem.Spec PyProof.Rows L2
open Sem (wp)

inductive Kd where
  | ls (a : Addr)
  | tp (a : Addr)
  | tx (x : Str)
def Kd.v : Kd → V
  | .ls a => .ref a
  | .tp a => .ref a
  | .tx x => .str x
def Kd.At (K : PySem.W.Frag) (H : Hp) : Kd → List V → Prop
  | .ls a, xs => SqL K H a xs
  | .tp a, xs => SqT K H a xs
  | .tx x, xs => xs = x.cps.toList.map fun c => V.str ⟨#[c]⟩
def Kd.It (h : Heap) (it : Addr) : Kd → Nat → Prop
  | .ls a, i => h.IsListIter it a i
  | .tp a, i => h.IsTupleIter it a i
  | .tx x, i => ∃ t, h.IsStrIter it (strIterType x) x t i
def Kd.ad : Kd → List Addr
  | .ls a => [a]
  | .tp a => [a]
  | .tx _ => []
theorem Kd.It.keep {h h' : Heap} {it : Addr} {k : Kd} {i : Nat} (q : k.It h it i) (e : ∀ o, h.get? it = some o → h'.get? it = some o) : k.It h' it i := by
  cases k with
  | ls a => exact Heap.IsListIter.at q e
  | tp a => exact Heap.IsTupleIter.at q e
  | tx x => obtain ⟨t, o, ho, r⟩ := q; exact ⟨t, o, e o ho, r⟩
theorem Kd.It.obj {h : Heap} {it : Addr} {k : Kd} {i : Nat} (q : k.It h it i) : ∃ o, h.get? it = some o ∧ ∀ v, o.data ≠ .cell v := by
  cases k with
  | ls a => obtain ⟨o, e, c, d⟩ := q; exact ⟨o, e, fun v z => by rw [d] at z; cases z⟩
  | tp a => obtain ⟨o, e, c, d⟩ := q; exact ⟨o, e, fun v z => by rw [d] at z; cases z⟩
  | tx x => obtain ⟨t, o, e, c, d⟩ := q; exact ⟨o, e, fun v z => by rw [d] at z; cases z⟩
section
variable {X : Cx} {pins : List (Addr × Obj)} {σ : L2.St} {H : Hp} {s : Shared}
theorem Kd.At.inj (I : Inv X pins σ H s) {k : Kd} {xs ys : List V} (a : k.At X.K H xs) (b : k.At X.K H ys) : xs = ys := by
  cases k with
  | ls d => exact I.list_inj a b
  | tp d => exact I.tuple_inj a b
  | tx x => exact a.trans b.symm
theorem vals_draw {xs : List V} {its : List Value} (r : Vals xs its) {j : Nat} {u : Value} (e : its.toArray[j]? = some u) : ∃ x, xs[j]? = some x ∧ RelV x u := by
  have hl := r.length
  have e' : its[j]? = some u := by simpa using e
  have hj : j < its.length := (List.getElem?_eq_some_iff.mp e').1
  have hx : xs[j]? = some (xs[j]'(by omega)) := List.getElem?_eq_getElem (by omega)
  obtain ⟨u', hu, ru⟩ := r.get hx
  rw [e'] at hu
  cases hu
  exact ⟨_, hx, ru⟩
theorem Kd.draws (I : Inv X pins σ H s) (k : Kd) {xs : List V} {it : Addr} {i : Nat} (ha : k.At X.K H xs) (hi : k.It s.heap it i) (hn : it ∉ k.ad) {A : Around} (hh : A.handled = none) :
    ∃ (P : Nat → Value → Prop) (St : Nat → Heap → Prop), Draws X.prog X.w A it (it :: k.ad) xs.length P St ∧ St i s.heap ∧ (∀ j u, P j u → ∃ x, xs[j]? = some x ∧ RelV x u) ∧ ∀ j h, St j h → k.It h it j := by
  cases k with
  | ls a =>
    obtain ⟨its, rv, p, hz⟩ := I.list ha
    have e : its.toArray.size = xs.length := by have := rv.length; simp; omega
    have D := Draws.list (prog := X.prog) (w := X.w) (A := A) hh it a (fun z => hn (by simp [Kd.ad, z])) its.toArray
    rw [e] at D
    exact ⟨_, _, D, ⟨hi, p.isList⟩, fun j u q => vals_draw rv q, fun j h q => q.1⟩
  | tp a =>
    obtain ⟨its, rv, p, hz⟩ := I.tuple ha
    have e : its.toArray.size = xs.length := by have := rv.length; simp; omega
    have D := Draws.tuple (prog := X.prog) (w := X.w) (A := A) hh it a (fun z => hn (by simp [Kd.ad, z])) its.toArray
    rw [e] at D
    exact ⟨_, _, D, ⟨hi, p⟩, fun j u q => vals_draw rv q, fun j h q => q.1⟩
  | tx x =>
    obtain ⟨t, hi⟩ := hi
    have e : x.cps.size = xs.length := by rw [show xs = _ from ha]; simp
    have D := Draws.text (prog := X.prog) (w := X.w) (A := A) hh it x t
    rw [e] at D
    refine ⟨_, _, D, hi, fun j u ⟨c, t', hc, q⟩ => ⟨.str ⟨#[c]⟩, ?_, t', q⟩, fun j h q => ⟨t, q⟩⟩
    rw [show xs = _ from ha]
    simp [hc]
theorem Kd.begins (I : Inv X pins σ H s) (k : Kd) {xs : List V} (ha : k.At X.K H xs) {u : Value} (r : RelV k.v u) :
    ∃ (o : Obj) (B : Heap → Prop), Begins u o B ∧ B s.heap ∧ (∀ (h : Heap) (it : Addr), h.get? it = some o → k.It h it 0) ∧ ∀ b ∈ k.ad, b < s.heap.objs.size := by
  cases k with
  | ls a =>
    obtain ⟨its, rv, p, hz⟩ := I.list ha
    obtain rfl : u = Value.ref a := r
    exact ⟨_, _, begins_list a its.toArray, p.isList, fun h it e => ⟨_, e, rfl, rfl⟩, fun b hb => by
      obtain rfl : b = a := by simpa [Kd.ad] using hb
      exact p.lt⟩
  | tp a =>
    obtain ⟨its, rv, p, hz⟩ := I.tuple ha
    obtain rfl : u = Value.ref a := r
    refine ⟨_, _, begins_tuple a its.toArray, p, fun h it e => ⟨_, e, rfl, rfl⟩, fun b hb => ?_⟩
    obtain rfl : b = a := by simpa [Kd.ad] using hb
    obtain ⟨o, e, _⟩ := p
    exact Heap.lt_size e
  | tx x =>
    obtain ⟨t, rfl⟩ := r
    exact ⟨_, _, begins_text x t, trivial, fun h it e => ⟨t, _, e, rfl, rfl⟩, fun b hb => by simp [Kd.ad] at hb⟩
end

/-- two walked side by side, n of them -/
def Itq (K : PySem.W.Frag) (k1 k2 : Kd) (n : Nat) : It :=
  ⟨fun i H => i < n ∧ ∃ xs ys, k1.At K H xs ∧ k2.At K H ys ∧ min xs.length ys.length = n,
    fun i H v H' => ∃ T x y, v = .ref T ∧ H T = none ∧ H' = upd H T (.tup [x, y]) ∧ (∀ xs, k1.At K H xs → xs[i]? = some x) ∧ ∀ ys, k2.At K H ys → ys[i]? = some y,
    fun i H => n ≤ i ∧ ∃ xs ys, k1.At K H xs ∧ k2.At K H ys ∧ min xs.length ys.length = n⟩
def Ieq (K : PySem.W.Frag) (k : Kd) (c : Int) (n : Nat) : It :=
  ⟨fun i H => i < n ∧ ∃ xs, k.At K H xs ∧ xs.length = n,
    fun i H v H' => ∃ T x, v = .ref T ∧ H T = none ∧ H' = upd H T (.tup [.int (c + (i : Nat)), x]) ∧ ∀ xs, k.At K H xs → xs[i]? = some x,
    fun i H => n ≤ i ∧ ∃ xs, k.At K H xs ∧ xs.length = n⟩
def Zst (k1 k2 : Kd) (n N : Nat) (i : Nat) (h : Heap) : Prop :=
  i ≤ n ∧ IsZip h (N + 4) (N + 2) (N + 3) .none ∧ IsTupOf2 h (N + 2) (.ref N) (.ref (N + 1)) ∧ (∃ a b, IsTupOf2 h (N + 3) a b) ∧ k1.It h N i ∧ k2.It h (N + 1) i
theorem Zst.obj {k1 k2 : Kd} {n N i : Nat} {h : Heap} (q : Zst k1 k2 n N i h) : ∀ b ∈ [N + 4, N + 2, N + 3, N, N + 1], ∃ o, h.get? b = some o ∧ ∀ v, o.data ≠ .cell v := by
  obtain ⟨_, z, ti, ⟨a, b, to⟩, p1, p2⟩ := q
  intro c hc
  have : c = N + 4 ∨ c = N + 2 ∨ c = N + 3 ∨ c = N ∨ c = N + 1 := by simpa using hc
  rcases this with e | e | e | e | e <;> subst e
  · exact ⟨_, z, fun v x => nomatch x⟩
  · exact ⟨_, ti, fun v x => nomatch x⟩
  · exact ⟨_, to, fun v x => nomatch x⟩
  · exact p1.obj
  · exact p2.obj
theorem ad_new {k : Kd} {N j : Nat} (h : ∀ b ∈ k.ad, b < N) : N + j ∉ k.ad := fun x => absurd (h _ x) (Nat.not_lt.mpr (Nat.le_add_right N j))
section
variable {P : Program} {w : World} {K : PySem.W.Frag} {elts : List Expr} {kk : Nat} {tpos : Pos}
theorem turn_zq (k1 k2 : Kd) (n N : Nat) (h1 : ∀ b ∈ k1.ad, b < N) (h2 : ∀ b ∈ k2.ad, b < N) :
    Turn P w K (.Tuple elts kk tpos) (Itq K k1 k2 n) [N + 4, N + 2, N + 3, N, N + 1] (N + 4) (Zst k1 k2 n N) where
  mem := by simp
  obj := fun i h q => q.obj
  keep := fun i h h' q k => by
    obtain ⟨l, z, ti, ⟨a, b, to⟩, p1, p2⟩ := q
    exact ⟨l, k _ (by simp) _ z, k _ (by simp) _ ti, ⟨a, b, k _ (by simp) _ to⟩, p1.keep fun o e => k _ (by simp) o e, p2.keep fun o e => k _ (by simp) o e⟩
  item := by
    intro X hP hw hK hc i pins s σ H E I hf st hg
    subst hP hw hK
    obtain ⟨hlt, xs, ys, a1, a2, hm⟩ := hg
    have live : ∀ b ∈ [N + 4, N + 2, N + 3, N, N + 1], b < s.heap.objs.size := fun b hb => by
      obtain ⟨o, e, _⟩ := st.obj b hb
      exact Heap.lt_size e
    obtain ⟨hle, hz, hTI, hTO, q1, q2⟩ := st
    obtain ⟨P1, S1, D1, s1, r1, g1⟩ := Kd.draws (A := X.A.in1) I k1 a1 q1 (ad_new (j := 0) h1) (I.ok.hd hc)
    obtain ⟨P2, S2, D2, s2, r2, g2⟩ := Kd.draws (A := X.A.in1) I k2 a2 q2 (ad_new (j := 1) h2) (I.ok.hd hc)
    have Wz := GoesN.zip2 (elts := elts) (x1 := kk) (pos := tpos) (zip_sep2 h1 h2) D1 D2
    refine Wz.goes i s _ E (by rw [hm]; exact hlt) ⟨hz, hTI, hTO, s1, s2⟩ fun v h' tk hY st' hk htk => ?_
    obtain ⟨T, u1, u2, rfl, hT, pu1, pu2, hTup⟩ := hY
    obtain ⟨x, hx, rx⟩ := r1 _ _ pu1
    obtain ⟨y, hy, ry⟩ := r2 _ _ pu2
    have new : ObjOk X.prog X.w (upd H T (.tup [x, y])) h' T (.tup [x, y]) := ⟨by show 2 ≤ sizeLine; decide, [u1, u2], .cons rx (.cons ry .nil), hTup⟩
    have I1 := I.turnedNew (t' := tk) (ch := [N + 4, N + 2, N + 3, N, N + 1]) (fun b o hb e => hk b o (fun z => hb (by
      have : b = N + 4 ∨ b = N + 3 ∨ b = N ∨ b = N + 1 := by simpa using z
      rcases this with e | e | e | e <;> simp [e])) e) hf hT new
    refine ⟨.ref T, _, I1, rfl, ⟨T, x, y, rfl, I.hok.fresh hT, rfl, fun l hl => ?_, fun l hl => ?_⟩, ⟨hlt, st'.1, st'.2.1, st'.2.2.1, g1 _ _ st'.2.2.2.1, g2 _ _ st'.2.2.2.2⟩, fun b hb => ?_⟩
    · rw [Kd.At.inj I hl a1]; exact hx
    · rw [Kd.At.inj I hl a2]; exact hy
    · rw [upd_ne (Nat.ne_of_lt (Nat.lt_of_lt_of_le (live b hb) hT))]
      exact (hf b hb).1
  done := by
    intro X hP hw hK hc i pins s σ H E I hf st hg
    subst hP hw hK
    obtain ⟨hge, xs, ys, a1, a2, hm⟩ := hg
    obtain ⟨hle, hz, hTI, hTO, q1, q2⟩ := st
    have hi : i = min xs.length ys.length := by omega
    obtain ⟨P1, S1, D1, s1, r1, g1⟩ := Kd.draws (A := X.A.in1) I k1 a1 q1 (ad_new (j := 0) h1) (I.ok.hd hc)
    obtain ⟨P2, S2, D2, s2, r2, g2⟩ := Kd.draws (A := X.A.in1) I k2 a2 q2 (ad_new (j := 1) h2) (I.ok.hd hc)
    have Wz := GoesN.zip2 (elts := elts) (x1 := kk) (pos := tpos) (zip_sep2 h1 h2) D1 D2
    rw [hi] at s1 s2
    refine Wz.stops s _ E ⟨hz, hTI, hTO, s1, s2⟩ fun h' tk hk htk => ?_
    exact I.turnedL (t' := tk) (ch := [N + 4, N + 2, N + 3, N, N + 1]) (fun b o hb e => hk b o (fun z => hb (by
      have : b = N + 4 ∨ b = N + 3 ∨ b = N ∨ b = N + 1 := by simpa using z
      rcases this with e | e | e | e <;> simp [e])) e) hf
  self := fun A i s Q E st h => wpAny_pyIter_zip st.2.1 h
def Est (k : Kd) (c : Int) (n N : Nat) (i : Nat) (h : Heap) : Prop := i ≤ n ∧ (∃ old, IsEnum h (N + 1) N (c + (i : Int)) old) ∧ k.It h N i
theorem Est.obj {k : Kd} {c : Int} {n N i : Nat} {h : Heap} (q : Est k c n N i h) : ∀ b ∈ [N + 1, N], ∃ o, h.get? b = some o ∧ ∀ v, o.data ≠ .cell v := by
  obtain ⟨_, ⟨o, z⟩, p⟩ := q
  intro b hb
  have : b = N + 1 ∨ b = N := by simpa using hb
  rcases this with e | e <;> subst e
  · exact ⟨_, z, fun v x => nomatch x⟩
  · exact p.obj
theorem turn_eq (k : Kd) (c : Int) (n N : Nat) (h1 : ∀ b ∈ k.ad, b < N) :
    Turn P w K (.Tuple elts kk tpos) (Ieq K k c n) [N + 1, N] (N + 1) (Est k c n N) where
  mem := by simp
  obj := fun i h q => q.obj
  keep := fun i h h' q kp => by
    obtain ⟨l, ⟨o, z⟩, p⟩ := q
    exact ⟨l, ⟨o, kp _ (by simp) _ z⟩, p.keep fun o e => kp _ (by simp) o e⟩
  item := by
    intro X hP hw hK hc i pins s σ H E I hf st hg
    subst hP hw hK
    obtain ⟨hlt, xs, a1, hm⟩ := hg
    have live : ∀ b ∈ [N + 1, N], b < s.heap.objs.size := fun b hb => by
      obtain ⟨o, e, _⟩ := st.obj b hb
      exact Heap.lt_size e
    obtain ⟨hle, hz, q1⟩ := st
    obtain ⟨P1, S1, D1, s1, r1, g1⟩ := Kd.draws (A := X.A.in1) I k a1 q1 (ad_new (j := 0) h1) (I.ok.hd hc)
    have We := GoesN.enumFrom (elts := elts) (x1 := kk) (pos := tpos) c D1 (N + 1) (Nat.succ_ne_self _) (notIn_new (j := 1) (i := 0) h1 (by omega)) (by simp)
    refine We.goes i s _ E (by rw [hm]; exact hlt) ⟨hz, s1⟩ fun v h' tk hY st' hk htk => ?_
    obtain ⟨T, t, u, rfl, hT, pu, hTup⟩ := hY
    obtain ⟨x, hx, rx⟩ := r1 _ _ pu
    have new : ObjOk X.prog X.w (upd H T (.tup [.int (c + (i : Nat)), x])) h' T (.tup [.int (c + (i : Nat)), x]) := ⟨by show 2 ≤ sizeLine; decide, [.int (c + (i : Int)) t, u], .cons ⟨t, rfl⟩ (.cons rx .nil), hTup⟩
    have I1 := I.turnedNew (t' := tk) (ch := [N + 1, N]) (fun b o hb e => hk b o hb e) hf hT new
    refine ⟨.ref T, _, I1, rfl, ⟨T, x, rfl, I.hok.fresh hT, rfl, fun l hl => ?_⟩, ⟨hlt, st'.1, g1 _ _ st'.2⟩, fun b hb => ?_⟩
    · rw [Kd.At.inj I hl a1]; exact hx
    · rw [upd_ne (Nat.ne_of_lt (Nat.lt_of_lt_of_le (live b hb) hT))]
      exact (hf b hb).1
  done := by
    intro X hP hw hK hc i pins s σ H E I hf st hg
    subst hP hw hK
    obtain ⟨hge, xs, a1, hm⟩ := hg
    obtain ⟨hle, hz, q1⟩ := st
    have hi : i = xs.length := by omega
    obtain ⟨P1, S1, D1, s1, r1, g1⟩ := Kd.draws (A := X.A.in1) I k a1 q1 (ad_new (j := 0) h1) (I.ok.hd hc)
    have We := GoesN.enumFrom (elts := elts) (x1 := kk) (pos := tpos) c D1 (N + 1) (Nat.succ_ne_self _) (notIn_new (j := 1) (i := 0) h1 (by omega)) (by simp)
    rw [hi] at s1 hz
    refine We.stops s _ E ⟨hz, s1⟩ fun h' tk hk htk => ?_
    exact I.turnedL (t' := tk) (ch := [N + 1, N]) (fun b o hb e => hk b o hb e) hf
  self := fun A i s Q E st h => let ⟨_, ⟨_, z⟩, _⟩ := st; wpAny_pyIter_enum z h
end

set_option maxHeartbeats 1000000 in
/-- enumerate of one thing -/
theorem meets_enum1 {x : Value} {ob : Obj} {B : Heap → Prop} (b : Begins x ob B) :
    Meets (Builtin.«enumerate.__new__» ⟨[.type "enumerate", x], []⟩) (fun _ R s => B s.heap ∧ R (.ok (.ret (.ref (s.heap.push ob).objs.size)))
      { s with heap := (s.heap.push ob).push { cls := .type "enumerate", data := .fields #[.none, .bool false, .ref s.heap.objs.size, rawInt 0, .none, .none] } }) := .of_wp fun pr w A R s hh => by
  obtain ⟨hp, gg, dd, tt, oo⟩ := s
  obtain ⟨hb, hh⟩ := hh
  have hsub := sub_enumerate
  have qi : ∀ {A' : Around} {E : Value → Shared → Prop} {Q : Value → Shared → Prop}, Q (.ref hp.objs.size) ⟨hp.push ob, gg, dd, tt, oo⟩ → wpAny (model pr w) A' (pyIter x) Q E ⟨hp, gg, dd, tt, oo⟩ := fun z => b.iter pr w _ _ ⟨hp, gg, dd, tt, oo⟩ _ hb z
  wp_walk using qi
  refine wpAny_stack_any fun st => wpAny_pure ?_
  split
  · rename_i cc _ _ _ _ _
    cases (cc == Value.type "enumerate") <;> (wp_walk using qi; exact ⟨_, rfl, hh⟩)
  · wp_walk using qi
    exact ⟨_, rfl, hh⟩
theorem call_enum1 {prog : Program} {w : World} {A : Around} {E : Value → Shared → Prop} {s : Shared} {x : Value} {ob : Obj} {B : Heap → Prop} {Q : Value → Shared → Prop} (b : Begins x ob B) (hb : B s.heap)
    (k : ∀ h', IsEnum h' (s.heap.objs.size + 1) s.heap.objs.size 0 .none → h'.get? s.heap.objs.size = some ob → (∀ c o, s.heap.get? c = some o → h'.get? c = some o) → Q (.ref (s.heap.objs.size + 1)) { s with heap := h' }) :
    wpAny (model prog w) A (call (.type "enumerate") [x]) Q E s := by
  refine callType_new F.called_enumerate (by decide) (F.typeCall_enumerate_1 _) (F.newCall_enumerate_1 _) (fun obj => F.args_object_init_2 obj _) F.entry_enumerate_new (meets_enum1 b) ⟨hb, ?_⟩
  have sz : (s.heap.push ob).objs.size = s.heap.objs.size + 1 := Heap.size_push ..
  have g := Heap.get?_push_size (s.heap.push ob) (o := { cls := .type "enumerate", data := .fields #[.none, .bool false, .ref s.heap.objs.size, rawInt 0, .none, .none] }) rfl
  rw [sz] at g
  show _ ∧ _
  rw [sz]
  exact ⟨⟨_, g, rfl⟩, k _ g (Heap.get?_push_of_some _ (Heap.get?_push_size _ b.free)) fun c o e => Heap.get?_push_of_some _ (Heap.get?_push_of_some _ e)⟩

def iZq (K : PySem.W.Frag) (ta : TA) : TI := fun σ H R => ta σ H fun vs H1 => ∃ k1 k2 xs ys, vs = [Kd.v k1, Kd.v k2] ∧ k1.At K H1 xs ∧ k2.At K H1 ys ∧ R (Itq K k1 k2 (min xs.length ys.length)) H1
def iEq (K : PySem.W.Frag) (ta : TA) : TI := fun σ H R => ta σ H fun vs H1 => ∃ k xs, vs = [Kd.v k] ∧ k.At K H1 xs ∧ R (Ieq K k 0 xs.length) H1
section
variable {X : Cx} {e e2 : Expr} {ta : TA} {p pos tpos : Pos} {elts : List Expr} {kk : Nat}
theorem pi_zq (hg : Gl X "zip") (hm : X.mg "zip" = none) (ha : PA X [e, e2] ta) (hs : starEach [e, e2] X.env = (false, eval e X.env) :: starEach [e2] X.env := by rfl) (hpl : (backTo pos (starEach [e2] X.env)).any (·.1) = false := by rfl) :
    PI X (.Tuple elts kk tpos) (.Call (.Name "zip" p) [e, e2] [] pos) (iZq X.K ta) := by
  refine ⟨fun pins s σ H R I h => ?_⟩
  refine Call_ (ld_blt I hg hm PyProof.Rows.boot_zip (PyProof.Rows.callWith_type1 (thn (ha.run pos pins s σ H _ I h) fun us s1 ⟨vs, H1, I1, rr, k1, k2, xs, ys, ex, a1, a2, q⟩ => ?_) hs hpl))
  subst ex
  cases rr with
  | cons r rr =>
    cases rr with
    | cons r' rr =>
      cases rr
      obtain ⟨o1, B1, b1, t1, g1, l1⟩ := Kd.begins I1 k1 a1 r
      obtain ⟨o2, B2, b2, t2, g2, l2⟩ := Kd.begins I1 k2 a2 r'
      refine zip_begins2 b1 b2 t1 t2 fun h' hz hTI hTO hx hy hsz hk => wpAny_pyIter_zip hz ?_
      have I2 : Inv X pins σ H1 { s1 with heap := h' } := I1.kept (t' := s1.toks) hk
      refine ⟨s1.heap.objs.size + 4, [s1.heap.objs.size + 4, s1.heap.objs.size + 2, s1.heap.objs.size + 3, s1.heap.objs.size, s1.heap.objs.size + 1], _, _, H1, rfl, I2, turn_zq k1 k2 (min xs.length ys.length) s1.heap.objs.size l1 l2, ⟨Nat.zero_le _, hz, hTI, ⟨_, _, hTO⟩, g1 _ _ hx, g2 _ _ hy⟩, fun b hb => ?_, q⟩
      have : b = s1.heap.objs.size + 4 ∨ b = s1.heap.objs.size + 2 ∨ b = s1.heap.objs.size + 3 ∨ b = s1.heap.objs.size ∨ b = s1.heap.objs.size + 1 := by simpa using hb
      have hle : s1.heap.objs.size ≤ b := by rcases this with z | z | z | z | z <;> rw [z] <;> simp
      exact I1.fpOk hle (I1.hok.fresh hle)
theorem pi_eq (hg : Gl X "enumerate") (hm : X.mg "enumerate" = none) (ha : PA X [e] ta) (hs : starEach [e] X.env = [(false, eval e X.env)] := by rfl) :
    PI X (.Tuple elts kk tpos) (.Call (.Name "enumerate" p) [e] [] pos) (iEq X.K ta) := by
  refine ⟨fun pins s σ H R I h => ?_⟩
  refine Call_ (ld_blt I hg hm boot_enumerate (PyProof.Rows.callWith_type1 (thn (ha.run pos pins s σ H _ I h) fun us s1 ⟨vs, H1, I1, rr, k, xs, ex, a1, q⟩ => ?_) hs rfl))
  subst ex
  cases rr with
  | cons r rr =>
    cases rr
    obtain ⟨o1, B1, b1, t1, g1, l1⟩ := Kd.begins I1 k a1 r
    refine call_enum1 b1 t1 fun h' hz hx hk => wpAny_pyIter_enum hz ?_
    have I2 : Inv X pins σ H1 { s1 with heap := h' } := I1.kept (t' := s1.toks) hk
    refine ⟨s1.heap.objs.size + 1, [s1.heap.objs.size + 1, s1.heap.objs.size], _, _, H1, rfl, I2, turn_eq k 0 xs.length s1.heap.objs.size l1, ⟨Nat.zero_le _, ⟨_, hz⟩, g1 _ _ hx⟩, fun b hb => ?_, q⟩
    have : b = s1.heap.objs.size + 1 ∨ b = s1.heap.objs.size := by simpa using hb
    have hle : s1.heap.objs.size ≤ b := by rcases this with z | z <;> rw [z] <;> simp
    exact I1.fpOk hle (I1.hok.fresh hle)
end

/-! ### as functions -/
/-- what is not written, as its items -/
def stOf : D → Option (List D)
  | .tup l => some l
  | .fl l => some l
  | .str s => some (s.map fun c => .str [c])
  | _ => none
def qOf (h : IH) : D → Option (List D)
  | .ref n => lstOf h (.ref n)
  | d => stOf d
def zipQ (a b : D) (n : Nat) (h : IH) : Option (List D) := match qOf h a, qOf h b with
  | some l, some l' => if min l.length l'.length = n then some (List.zipWith (fun x y => .tup [x, y]) l l') else none
  | _, _ => none
def enumQ (a : D) (n : Nat) (h : IH) : Option (List D) := match qOf h a with
  | some l => if l.length = n then some (l.mapIdx fun i x => .tup [.int (i : Nat), x]) else none
  | _ => none
def iZip (m : MA) : MI := fun env h => (m env h).bind fun xs h1 => match xs with
  | [a, b] => match stOf a, stOf b with
    | some l, some l' => .ok (.st (List.zipWith (fun x y => .tup [x, y]) l l')) h1
    | _, _ => match qOf h1 a, qOf h1 b with
      | some l, some l' => .ok (.dy (zipQ a b (min l.length l'.length))) h1
      | _, _ => .no
  | _ => .no
def iEnum (m : MA) : MI := fun env h => (m env h).bind fun xs h1 => match xs with
  | [a] => match stOf a with
    | some l => .ok (.st (l.mapIdx fun i x => .tup [.int (i : Nat), x])) h1
    | _ => match qOf h1 a with
      | some l => .ok (.dy (enumQ a l.length)) h1
      | none => .no
  | _ => .no
def kdOf : D → V → Kd
  | .tup _, .ref a => .tp a
  | .str _, .str s => .tx s
  | _, .ref a => .ls a
  | _, _ => .ls 0
theorem q_kd {G : Cf} {et : List Addr} {H : Hp} {h : IH} {d : D} {l : List D} {v : V} (R : HRel G et h H) (e : qOf h d = some l) (r : Den G et H d v) : v = (kdOf d v).v ∧ ∃ xs : List V, DenL G et H l xs ∧ (kdOf d v).At G.K H xs := by
  cases d with
  | ref n =>
    obtain ⟨a, vs, rfl, h2, h3⟩ := lst_ok R (x := .ref n) e r
    exact ⟨rfl, vs, h3, h2⟩
  | tup l' =>
    cases e
    obtain ⟨a, vs, rfl, h2, h3⟩ := den_tup.mp r
    exact ⟨rfl, vs, h3, TpT.sq h2⟩
  | fl l' =>
    cases e
    obtain ⟨a, vs, rfl, h2, h3⟩ := den_fl.mp r
    exact ⟨rfl, vs, h3, h2.sq⟩
  | str s =>
    cases e
    rw [den_str.mp r]
    refine ⟨rfl, _, ?_, rfl⟩
    have : (strV s).cps.toList.map (fun c => V.str ⟨#[c]⟩) = ((s.map fun c => [c]).map strV).map V.str := by simp [strV]
    rw [this, show (s.map fun c => D.str [c]) = (s.map fun c => [c]).map D.str by simp]
    exact DenL.ofStrs
  | _ => cases e
section
variable {X : Cx} {G : Cf} {W : WX} {e e2 : Expr} {mt : MA} {pos p tpos : Pos} {elts : List Expr} {kk : Nat}
theorem stOf_kd {et : List Addr} {H : Hp} {d : D} {l : List D} {v : V} (e : stOf d = some l) (r : Den G et H d v) : ∃ (k : Kd) (xs : List V), v = k.v ∧ DenL G et H l xs ∧ ∀ H', Ext H H' → k.At G.K H' xs := by
  cases d with
  | tup l' =>
    cases e
    obtain ⟨a, vs, rfl, h2, h3⟩ := den_tup.mp r
    exact ⟨.tp a, vs, rfl, h3, fun H' x => x.sqT h2⟩
  | fl l' =>
    cases e
    obtain ⟨a, vs, rfl, h2, h3⟩ := den_fl.mp r
    exact ⟨.ls a, vs, rfl, h3, fun H' x => (h2.ext x).sq⟩
  | str s =>
    cases e
    refine ⟨.tx (strV s), _, den_str.mp r, ?_, fun H' x => rfl⟩
    have : (strV s).cps.toList.map (fun c => V.str ⟨#[c]⟩) = ((s.map fun c => [c]).map strV).map V.str := by simp [strV]
    rw [this, show (s.map fun c => D.str [c]) = (s.map fun c => [c]).map D.str by simp]
    exact DenL.ofStrs
  | _ => cases e
theorem den_pair {et : List Addr} {H : Hp} {h : IH} {a b : D} {x y : V} {T : Addr} (hT : H T = none) (ra : Den G et H a x) (rb : Den G et H b y) : Den G et (upd H T (.tup [x, y])) (.tup [a, b]) (.ref T) := by
  have ex : Ext H (upd H T (.tup [x, y])) := Ext.new hT
  exact den_tup.mpr ⟨T, [x, y], rfl, upd_same .., denL_cons.mpr ⟨x, [y], rfl, ra.mono List.prefix_rfl ex, denL_cons.mpr ⟨y, [], rfl, rb.mono List.prefix_rfl ex, denL_nil.mpr rfl⟩⟩⟩
theorem mi_zip (hK : X.K = G.K) (ha : PA X [e, e2] (tA G W mt)) (hm : X.mg "zip" = none) (hg : Gl X "zip" := by rfl) (hs : starEach [e, e2] X.env = (false, eval e X.env) :: starEach [e2] X.env := by rfl) (hpl : (backTo pos (starEach [e2] X.env)).any (·.1) = false := by rfl) :
    PI X (.Tuple elts kk tpos) (.Call (.Name "zip" p) [e, e2] [] pos) (tI G W (iZip mt)) := PI.imp (pi_zq hg hm ha hs hpl) fun σ H R ⟨et, env, h, hE, hH, hP⟩ => by
  rw [hK]
  refine ⟨et, env, h, hE, hH, (Pst.of_bind hP).imp fun et1 H1 h1 xs p e hr q vs hv => ?_⟩
  split at q
  · rename_i a b
    obtain ⟨v, w, rfl, ra, rb⟩ := list2 hv
    have dyn : ∀ l l', qOf h1 a = some l → qOf h1 b = some l' → Pst G et1 H1 (.ok (Src.dy (zipQ a b (min l.length l'.length))) h1) (fun et' H' _ src => ∀ J, JRel G et' H' src J → R J H') (fun c d H' => W c d σ H') → ∃ k1 k2 xs ys, [v, w] = [Kd.v k1, Kd.v k2] ∧ k1.At G.K H1 xs ∧ k2.At G.K H1 ys ∧ R (Itq G.K k1 k2 (min xs.length ys.length)) H1 := fun l l' ea eb q => by
      obtain ⟨v1, xs, d1, a1⟩ := q_kd hr ea ra
      obtain ⟨v2, ys, d2, a2⟩ := q_kd hr eb rb
      have n1 := d1.len
      have n2 := d2.len
      refine ⟨kdOf a v, kdOf b w, xs, ys, by rw [← v1, ← v2], a1, a2, q.here hr _ fun et2 H2 h2 p2 e2 R2 ok i => ?_⟩
      have ok' : (zipQ a b (min l.length l'.length) h2).isSome = true := ok
      obtain ⟨zs, ez⟩ := Option.isSome_iff_exists.mp ok'
      show (match (zipQ a b (min l.length l'.length) h2).bind fun xs => xs[i]? with | some d => _ | none => _)
      rw [ez]
      unfold zipQ at ez
      cases qa : qOf h2 a with
      | none => rw [qa] at ez; cases ez
      | some m =>
        cases qb : qOf h2 b with
        | none => rw [qa, qb] at ez; cases ez
        | some m' =>
          rw [qa, qb] at ez
          dsimp only at ez
          split at ez
          · rename_i hn
            cases ez
            obtain ⟨_, xs2, f1, b1⟩ := q_kd R2 qa (ra.mono p2 e2)
            obtain ⟨_, ys2, f2, b2⟩ := q_kd R2 qb (rb.mono p2 e2)
            have n3 := f1.len
            have n4 := f2.len
            show (match (List.zipWith (fun x y => D.tup [x, y]) m m')[i]? with | some d => _ | none => _)
            rw [List.getElem?_zipWith]
            cases e3 : m[i]? with
            | none =>
              have := List.getElem?_eq_none_iff.mp e3
              exact ⟨by omega, xs2, ys2, b1, b2, by omega⟩
            | some d =>
              cases e4 : m'[i]? with
              | none =>
                have := List.getElem?_eq_none_iff.mp e4
                exact ⟨by omega, xs2, ys2, b1, b2, by omega⟩
              | some d' =>
                have m1 := (List.getElem?_eq_some_iff.mp e3).1
                have m2 := (List.getElem?_eq_some_iff.mp e4).1
                refine ⟨⟨by omega, xs2, ys2, b1, b2, by omega⟩, fun z H' ⟨T, x, y, hz, hT, hH', hx, hy⟩ => ?_⟩
                subst hz hH'
                obtain ⟨v1, w1, r1⟩ := f1.get e3
                obtain ⟨v2, w2, r2⟩ := f2.get e4
                have x1 := hx _ b1
                have x2 := hy _ b2
                rw [w1] at x1
                rw [w2] at x2
                cases x1
                cases x2
                exact ⟨Ext.new hT, R2.new hT, den_pair (h := h2) hT r1 r2⟩
          · cases ez
    have alt : Pst G et1 H1 (match qOf h1 a, qOf h1 b with
      | some l, some l' => NR.R.ok (Src.dy (zipQ a b (min l.length l'.length))) h1
      | _, _ => .no) (fun et' H' _ src => ∀ J, JRel G et' H' src J → R J H') (fun c d H' => W c d σ H') → ∃ k1 k2 xs ys, [v, w] = [Kd.v k1, Kd.v k2] ∧ k1.At G.K H1 xs ∧ k2.At G.K H1 ys ∧ R (Itq G.K k1 k2 (min xs.length ys.length)) H1 := fun q => by
      cases qa : qOf h1 a with
      | none => rw [qa] at q; exact q.elim
      | some l =>
        cases qb : qOf h1 b with
        | none => rw [qa, qb] at q; exact q.elim
        | some l' => rw [qa, qb] at q; exact dyn l l' qa qb q
    cases ea : stOf a with
    | none => rw [ea] at q; exact alt q
    | some l =>
      cases eb : stOf b with
      | none => rw [ea, eb] at q; exact alt q
      | some l' =>
        rw [ea, eb] at q
        obtain ⟨k1, xs, rfl, d1, st1⟩ := stOf_kd ea ra
        obtain ⟨k2, ys, rfl, d2, st2⟩ := stOf_kd eb rb
        refine ⟨k1, k2, xs, ys, rfl, st1 _ (Ext.refl _), st2 _ (Ext.refl _), q.here hr _ (jrel_st fun et2 H2 h2 p2 e2 R2 i => ?_)⟩
        have n1 := d1.len
        have n2 := d2.len
        rw [List.getElem?_zipWith]
        cases e3 : l[i]? with
        | none =>
          have := List.getElem?_eq_none_iff.mp e3
          exact ⟨by omega, xs, ys, st1 _ e2, st2 _ e2, rfl⟩
        | some d =>
          cases e4 : l'[i]? with
          | none =>
            have := List.getElem?_eq_none_iff.mp e4
            exact ⟨by omega, xs, ys, st1 _ e2, st2 _ e2, rfl⟩
          | some d' =>
            have m1 := (List.getElem?_eq_some_iff.mp e3).1
            have m2 := (List.getElem?_eq_some_iff.mp e4).1
            refine ⟨⟨by omega, xs, ys, st1 _ e2, st2 _ e2, rfl⟩, fun z H' ⟨T, x, y, hz, hT, hH', hx, hy⟩ => ?_⟩
            subst hz hH'
            obtain ⟨v1, w1, r1⟩ := d1.get e3
            obtain ⟨v2, w2, r2⟩ := d2.get e4
            have x1 := hx _ (st1 _ e2)
            have x2 := hy _ (st2 _ e2)
            rw [w1] at x1
            rw [w2] at x2
            cases x1
            cases x2
            exact ⟨Ext.new hT, R2.new hT, den_pair (h := h2) hT (r1.mono p2 e2) (r2.mono p2 e2)⟩
  · exact q.elim
theorem mi_enum (hK : X.K = G.K) (ha : PA X [e] (tA G W mt)) (hm : X.mg "enumerate" = none) (hg : Gl X "enumerate" := by rfl) (hs : starEach [e] X.env = [(false, eval e X.env)] := by rfl) :
    PI X (.Tuple elts kk tpos) (.Call (.Name "enumerate" p) [e] [] pos) (tI G W (iEnum mt)) := PI.imp (pi_eq hg hm ha hs) fun σ H R ⟨et, env, h, hE, hH, hP⟩ => by
  rw [hK]
  refine ⟨et, env, h, hE, hH, (Pst.of_bind hP).imp fun et1 H1 h1 xs p e hr q vs hv => ?_⟩
  split at q
  · rename_i a
    obtain ⟨v, rfl, ra⟩ := list1 hv
    cases ea : stOf a with
    | none =>
      rw [ea] at q
      cases qa : qOf h1 a with
      | none => rw [qa] at q; exact q.elim
      | some l =>
        rw [qa] at q
        obtain ⟨v1, xs, d1, a1⟩ := q_kd hr qa ra
        have n1 := d1.len
        refine ⟨kdOf a v, xs, by rw [← v1], a1, q.here hr _ fun et2 H2 h2 p2 e2 R2 ok i => ?_⟩
        have ok' : (enumQ a l.length h2).isSome = true := ok
        obtain ⟨zs, ez⟩ := Option.isSome_iff_exists.mp ok'
        show (match (enumQ a l.length h2).bind fun xs => xs[i]? with | some d => _ | none => _)
        rw [ez]
        unfold enumQ at ez
        cases qb : qOf h2 a with
        | none => rw [qb] at ez; cases ez
        | some m =>
          rw [qb] at ez
          dsimp only at ez
          split at ez
          · rename_i hn
            cases ez
            obtain ⟨_, xs2, f1, b1⟩ := q_kd R2 qb (ra.mono p2 e2)
            have n3 := f1.len
            show (match (m.mapIdx fun i x => D.tup [.int (i : Nat), x])[i]? with | some d => _ | none => _)
            rw [List.getElem?_mapIdx]
            cases e3 : m[i]? with
            | none =>
              have := List.getElem?_eq_none_iff.mp e3
              exact ⟨by omega, xs2, b1, by omega⟩
            | some d =>
              have m1 := (List.getElem?_eq_some_iff.mp e3).1
              refine ⟨⟨by omega, xs2, b1, by omega⟩, fun z H' ⟨T, x, hz, hT, hH', hx⟩ => ?_⟩
              subst hz hH'
              obtain ⟨v1, w1, r1⟩ := f1.get e3
              have x1 := hx _ b1
              rw [w1] at x1
              cases x1
              exact ⟨Ext.new hT, R2.new hT, den_pair (h := h2) hT (by simp) r1⟩
          · cases ez
    | some l =>
      rw [ea] at q
      obtain ⟨k1, xs, rfl, d1, st1⟩ := stOf_kd ea ra
      refine ⟨k1, xs, rfl, st1 _ (Ext.refl _), q.here hr _ (jrel_st fun et2 H2 h2 p2 e2 R2 i => ?_)⟩
      have n1 := d1.len
      rw [List.getElem?_mapIdx]
      cases e3 : l[i]? with
      | none =>
        have := List.getElem?_eq_none_iff.mp e3
        exact ⟨by omega, xs, st1 _ e2, rfl⟩
      | some d =>
        have m1 := (List.getElem?_eq_some_iff.mp e3).1
        refine ⟨⟨by omega, xs, st1 _ e2, rfl⟩, fun z H' ⟨T, x, hz, hT, hH', hx⟩ => ?_⟩
        subst hz hH'
        obtain ⟨v1, w1, r1⟩ := d1.get e3
        have x1 := hx _ (st1 _ e2)
        rw [w1] at x1
        cases x1
        exact ⟨Ext.new hT, R2.new hT, den_pair (h := h2) hT (by simp) (r1.mono p2 e2)⟩
  · exact q.elim
end
end NR

set_option Elab.async false
set_option linter.all false
set_option maxRecDepth 100000
set_option maxHeartbeats 1000000
/-! What the functions come to: equations for simp. -/
namespace NR
open PySem PySem.Spec PyProof.Rows L2
@[simp] theorem get_zero {A : Type} {a : A} {l : List A} : (a :: l)[0]? = some a := (rfl)
section
variable {A B : Type} {env : EV} {h h' : IH} {i j : Nat} {d x y : D} {a b c m mo mi me : ME} {t u : MT} {ta : MA} {s s1 s2 : MS} {f g : D → D → IH → R D}
@[simp] theorem bind_ok {a : A} {k : A → IH → R B} : (R.ok a h).bind k = k a h := (rfl)
@[simp] theorem bind_ex {c : Str} {d : XF} {k : A → IH → R B} : (R.ex c d h : R A).bind k = .ex c d h := (rfl)
@[simp] theorem bind_no {k : A → IH → R B} : (R.no : R A).bind k = .no := (rfl)
@[simp] theorem bindS_ok {a : A} {k : A → IH → RS} : (R.ok a h).bindS env k = k a h := (rfl)
@[simp] theorem bindS_ex {c : Str} {d : XF} {k : A → IH → RS} : (R.ex c d h : R A).bindS env k = .ex c d env h := (rfl)
@[simp] theorem bindS_no {k : A → IH → RS} : (R.no : R A).bindS env k = .no := (rfl)
@[simp] theorem then_nx {k : EV → IH → RS} : (RS.nx env h).then k = k env h := (rfl)
@[simp] theorem then_rt {k : EV → IH → RS} : (RS.rt d h).then k = .rt d h := (rfl)
@[simp] theorem then_bk {k : EV → IH → RS} : (RS.bk env h).then k = .bk env h := (rfl)
@[simp] theorem then_ct {k : EV → IH → RS} : (RS.ct env h).then k = .ct env h := (rfl)
@[simp] theorem then_ex {c : Str} {d : XF} {k : EV → IH → RS} : (RS.ex c d env h).then k = .ex c d env h := (rfl)
@[simp] theorem then_no {k : EV → IH → RS} : RS.no.then k = .no := (rfl)
@[simp] theorem fin_nx : (RS.nx env h).fin = .ok .non h := (rfl)
@[simp] theorem fin_rt : (RS.rt d h).fin = .ok d h := (rfl)
@[simp] theorem fin_ex {c : Str} {d : XF} : (RS.ex c d env h).fin = .ex c d h := (rfl)
@[simp] theorem ofO_some {a : A} : R.ofO (some a) h = .ok a h := (rfl)
/-- a new list -/
def newL (h : IH) (xs : List D) : R D := .ok (.ref h.length) (h ++ [.lst xs])
theorem newL_bind {xs : List D} {k : D → IH → R B} : (newL h xs).bind k = k (.ref h.length) (h ++ [.lst xs]) := rfl
theorem newL_bindS {xs : List D} {k : D → IH → RS} : (newL h xs).bindS env k = k (.ref h.length) (h ++ [.lst xs]) := rfl
@[simp] theorem ap_mVar : mVar i env h = match env[i]? with | some (some d) => .ok d h | _ => .no := rfl
@[simp] theorem ap_mC : mC d env h = .ok d h := rfl
@[simp] theorem ap_mOp : mOp f a b env h = (a env h).bind fun x h1 => (b env h1).bind fun y h2 => f x y h2 := rfl
@[simp] theorem ap_mTr : mTr m env h = (m env h).bind fun d h1 => R.ofO (truD h1 d) h1 := rfl
@[simp] theorem ap_mTb : mTb m env h = (m env h).bind fun d h1 => R.ofO d.bl? h1 := rfl
@[simp] theorem ap_mAnd : mAnd t u env h = (t env h).bind fun c h1 => if c = true then u env h1 else .ok false h1 := rfl
@[simp] theorem ap_mOr : mOr t u env h = (t env h).bind fun c h1 => if c = true then .ok true h1 else u env h1 := rfl
@[simp] theorem ap_mNot : mNot t env h = (t env h).bind fun c h1 => .ok (!c) h1 := rfl
@[simp] theorem ap_mIf : mIf t a b env h = (t env h).bind fun c h1 => if c = true then a env h1 else b env h1 := rfl
@[simp] theorem ap_mNil : mNil env h = .ok [] h := rfl
@[simp] theorem ap_mCons : mCons a ta env h = (a env h).bind fun x h1 => (ta env h1).bind fun xs h2 => .ok (x :: xs) h2 := rfl
@[simp] theorem ap_mTup : mTup ta env h = (ta env h).bind fun xs h1 => if xs.length ≤ 10000000 then .ok (.tup xs) h1 else .no := rfl
@[simp] theorem ap_mLst : mLst ta env h = (ta env h).bind fun xs h1 => if xs.length ≤ 10000000 then newL h1 xs else .no := rfl
@[simp] theorem ap_mCall {n : Nat} {fm : MF} : mCall n fm ta env h = (ta env h).bind fun ds h1 => callC n fm ds h1 := rfl
@[simp] theorem ap_mB {fb : List D → IH → R D} : mB fb ta env h = (ta env h).bind fun xs h1 => fb xs h1 := rfl
@[simp] theorem ap_mMeth {T : String} {fb : D → List D → IH → R D} : mMeth T fb mo ta env h = (mo env h).bind fun x h1 => if tyD T h1 x = true then (ta env h1).bind fun xs h2 => fb x xs h2 else .no := rfl
@[simp] theorem ap_mNeg : mNeg a env h = (a env h).bind fun x h1 => match x with | .int i => .ok (.int (-i)) h1 | _ => .no := rfl
@[simp] theorem ap_mAndV : mAndV a b env h = (a env h).bind fun x h1 => match x with | .bl true => b env h1 | .bl false => .ok (.bl false) h1 | _ => .no := rfl
@[simp] theorem ap_mOrV : mOrV a b env h = (a env h).bind fun x h1 => match x with | .bl true => .ok (.bl true) h1 | .bl false => b env h1 | _ => .no := rfl
@[simp] theorem ap_mNotV : mNotV a env h = (a env h).bind fun x h1 => match x with | .bl b => .ok (.bl (!b)) h1 | _ => .no := rfl
@[simp] theorem ap_mChain : mChain f g a b c env h = (a env h).bind fun x h1 => (b env h1).bind fun y h2 => (f x y h2).bind fun z h3 => match z with
  | .bl true => (c env h3).bind fun w h4 => g y w h4
  | .bl false => .ok (.bl false) h3
  | _ => .no := rfl
@[simp] theorem ap_mSlice {l u : MO} : mSlice m l u env h = (m env h).bind fun x h1 => (l env h1).bind fun l h2 => (u env h2).bind fun u h3 => sliceD x l u h3 := rfl
@[simp] theorem ap_moNone : moNone env h = .ok none h := rfl
@[simp] theorem ap_moSome : moSome m env h = (m env h).bind fun d h1 => match d with | .int i => .ok (some i) h1 | _ => .no := rfl
@[simp] theorem ap_mIs {T : String} : mIs T m env h = (m env h).bind fun x h1 => match isT T h1 x with | some b => .ok (.bl b) h1 | none => .no := rfl
@[simp] theorem ap_msNil : msNil env h = .nx env h := rfl
@[simp] theorem ap_msCons : msCons s1 s2 env h = (s1 env h).then s2 := rfl
@[simp] theorem ap_msRet : msRet m env h = (m env h).bindS env fun d h1 => .rt d h1 := rfl
@[simp] theorem ap_msIf : msIf t s1 s2 env h = (t env h).bindS env fun c h1 => if c = true then s1 env h1 else s2 env h1 := rfl
@[simp] theorem ap_msSet : msSet i m env h = (m env h).bindS env fun d h1 => .nx (env.set i (some d)) h1 := rfl
@[simp] theorem ap_msSetT {gg : MG} : msSetT gg m env h = (m env h).bindS env fun d h1 => match gg d env with | some e => .nx e h1 | none => .no := rfl
@[simp] theorem ap_msExpr : msExpr m env h = (m env h).bindS env fun _ h1 => .nx env h1 := rfl
@[simp] theorem ap_msAug : msAug i f m env h = match env[i]? with
  | some (some x) => (m env h).bindS env fun y h1 => (f x y h1).bindS env fun z h2 => .nx (env.set i (some z)) h2
  | _ => .no := rfl
@[simp] theorem ap_msSetI : msSetI mo mi me env h = (me env h).bindS env fun v h1 => (mo env h1).bindS env fun o h2 => (mi env h2).bindS env fun i h3 => match putD o i v h3 with
  | some h4 => .nx env h4
  | none => .no := rfl
@[simp] theorem ap_msAugI : msAugI f mo mi me env h = (mo env h).bindS env fun o h1 => (mi env h1).bindS env fun i h2 => match getL o i h2 with
  | none => .no
  | some x => (me env h2).bindS env fun y h3 => (f x y h3).bindS env fun z h4 => match putD o i z h4 with
    | some h5 => .nx env h5
    | none => .no := rfl
@[simp] theorem ap_msFor {it : MI} {gg : MG} : msFor it gg s env h = (it env h).bindS env fun src h1 => forM src gg s (src.many h1 + 1) 0 env h1 := rfl
@[simp] theorem ap_mLc {it : MI} {gg : MG} {ws : List Nat} : mLc it gg t m ws env h = (it env h).bind fun src h1 => lcM src gg t m h1.length (src.many h1 + 1) 0 (wipeE env ws) (h1 ++ [.lst []]) := rfl
@[simp] theorem ap_iSeq : iSeq m env h = (m env h).bind fun x h1 => match x with
  | .ref n => if (lstOf h1 (.ref n)).isSome then .ok (.ls n) h1 else .no
  | .tup l => .ok (.st l) h1
  | .fl l => .ok (.st l) h1
  | .str s => if s.length ≤ 10000000 then .ok (.st (s.map fun c => .str [c])) h1 else .no
  | _ => .no := rfl
@[simp] theorem ap_iRange1 : iRange1 ta env h = (ta env h).bind fun xs h1 => match xs with
  | [.int j] => if -10000000 ≤ j ∧ j ≤ 10000000 then .ok (.st (intsFrom 0 j.toNat)) h1 else .no
  | _ => .no := rfl
@[simp] theorem ap_iRange2 : iRange2 ta env h = (ta env h).bind fun xs h1 => match xs with
  | [.int i, .int j] => if -10000000 ≤ i ∧ i ≤ 10000000 ∧ -10000000 ≤ j ∧ j ≤ 10000000 then .ok (.st (intsFrom i (j - i).toNat)) h1 else .no
  | _ => .no := rfl
@[simp] theorem ap_fnM {n : Nat} {ds : List D} : fnM n s ds h = (s (ds.map some ++ List.replicate (n - ds.length) none) h).fin := rfl
theorem strV_eq (a b : List Nat) : (strV a == strV b) = decide (a = b) := by
  by_cases e : a = b
  · subst e; simp
  · rw [decide_eq_false e]
    exact beq_eq_false_iff_ne.mpr fun z => e (strV_inj z)
@[simp] theorem dEq_str {neg : Bool} {a b : List Nat} : dEq neg (.str a) (.str b) h = .ok (.bl (if neg then !decide (a = b) else decide (a = b))) h := by
  show R.ok (D.bl (if neg then !PyData.eqv (.str (strV a)) (.str (strV b)) else PyData.eqv (.str (strV a)) (.str (strV b)))) h = _
  rw [show PyData.eqv (.str (strV a)) (.str (strV b)) = (strV a == strV b) by simp [PyData.eqv], strV_eq]
@[simp] theorem dEq_int {neg : Bool} {a b : Int} : dEq neg (.int a) (.int b) h = .ok (.bl (if neg then !decide (a = b) else decide (a = b))) h := by
  show R.ok (D.bl (if neg then !PyData.eqv (.int a) (.int b) else PyData.eqv (.int a) (.int b))) h = _
  rw [show PyData.eqv (.int a) (.int b) = (a == b) by simp [PyData.eqv], Bool.beq_eq_decide_eq]
@[simp] theorem dIn_sign {neg : Bool} {c : Nat} {z : List Nat} : dIn neg (.str [c]) (.str z) h = .ok (.bl (if neg then !decide (c ∈ z) else decide (c ∈ z))) h := rfl
theorem allM_pyStrs {k : Nat} (zs : List (List Nat)) : allM (D.py h (k + 1)) (zs.map D.str) = some (zs.map fun z => PyData.str (strV z)) := by
  induction zs with
  | nil => rfl
  | cons z zs ih =>
    rw [List.map_cons, List.map_cons]
    unfold allM
    rw [ih]
    rfl
theorem dIn_strs {neg : Bool} {a : List Nat} {zs : List (List Nat)} : dIn neg (.str a) (.tup (zs.map D.str)) h = .ok (.bl (if neg then !decide (a ∈ zs) else decide (a ∈ zs))) h := by
  have e : (zs.map fun z => PyData.str (strV z)).any (fun z => PyData.eqv z (.str (strV a))) = decide (a ∈ zs) := by
    induction zs with
    | nil => rfl
    | cons z zs ih =>
      simp only [List.map_cons, List.any_cons, ih, PyData.eqv, strV_eq, List.mem_cons, Bool.decide_or]
      rw [show decide (z = a) = decide (a = z) from decide_eq_decide.mpr eq_comm]
  unfold dIn
  split
  · rename_i h1 h2; cases h2
  · rw [show D.py h 50 (.str a) = some (.str (strV a)) from rfl, show (seqOf h (.tup (zs.map D.str))).bind (allM (D.py h 49)) = allM (D.py h (48 + 1)) (zs.map D.str) from rfl, allM_pyStrs]
    dsimp only
    rw [e]
@[simp] theorem dAdd_int {i j : Int} : dAdd (.int i) (.int j) h = .ok (.int (i + j)) h := rfl
@[simp] theorem dSub_int {i j : Int} : dSub (.int i) (.int j) h = .ok (.int (i - j)) h := rfl
theorem dAdd_str_if {a b : List Nat} : dAdd (.str a) (.str b) h = if a.length + b.length ≤ 10000000 then .ok (.str (a ++ b)) h else .no := rfl
@[simp] theorem dMul_int {i j : Int} : dMul (.int i) (.int j) h = if cMul i j then .ok (.int (i * j)) h else .no := rfl
@[simp] theorem dI_int {C : Int → Int → Bool} {k : Int → Int → Int} {i j : Int} : dI C k (.int i) (.int j) h = if C i j then .ok (.int (k i j)) h else .no := rfl
@[simp] theorem dC_int {k : Int → Int → Bool} {i j : Int} : dC k (.int i) (.int j) h = .ok (.bl (k i j)) h := rfl
@[simp] theorem bl?_bl {b : Bool} : (D.bl b).bl? = some b := rfl
@[simp] theorem truD_bl {b : Bool} : truD h (.bl b) = some b := rfl
theorem okB_self {k : Nat} : ∀ {h g : IH}, okB k h (h ++ g)
  | [], _ => True.intro
  | _ :: h, g => ⟨.inl rfl, okB_self (h := h)⟩
@[simp] theorem okB_app {k : Nat} {h g : IH} : okB k h (h ++ g) ↔ True := iff_true_intro okB_self
@[simp] theorem okB_refl {k : Nat} {h : IH} : okB k h h ↔ True := iff_true_intro (by simpa using okB_self (k := k) (h := h) (g := []))
@[simp] theorem okB_nil {k : Nat} {h : IH} : okB k [] h ↔ True := Iff.rfl
@[simp] theorem okB_cons {k : Nat} {c c' : Cell} {cs cs' : IH} : okB k (c :: cs) (c' :: cs') ↔ (c' = c ∨ Cell.lo k c' = true) ∧ okB k cs cs' := Iff.rfl
/-- a call of a def that changes nothing and tells a value without cells of its own -/
theorem callC_pure {n : Nat} {fm : MF} {ds : List D} {d : D} {g : IH} (hn : ds.length = n) (e : fm ds h = .ok d (h ++ g)) (hd : d.lo h.length = true) : callC n fm ds h = .ok d h := by
  unfold callC
  rw [if_pos hn, e]
  unfold clean
  simp [hd]
theorem callC_same {n : Nat} {fm : MF} {ds : List D} {d : D} (hn : ds.length = n) (e : fm ds h = .ok d h) : callC n fm ds h = .ok d h := by
  unfold callC
  rw [if_pos hn, e]
  unfold clean
  simp
theorem callC_ex {n : Nat} {fm : MF} {ds : List D} {c : Str} {g : IH} (hn : ds.length = n) (e : fm ds h = .ex c none (h ++ g)) : callC n fm ds h = .ex c none h := by
  unfold callC
  rw [if_pos hn, e]
  unfold clean
  simp [xfLo]
theorem callC_len {n : Nat} {fm : MF} {ds : List D} {d : D} (hn : ds.length = n) (e : fm ds h = .ok d h') (hl : h'.length = h.length) : callC n fm ds h = .ok d h' := by
  unfold callC
  rw [if_pos hn, e]
  unfold clean
  dsimp only
  rw [← hl, List.take_length]
  split <;> rfl
/-- a call that leaves h' of the old cells, and more behind them -/
theorem callC_cut {n : Nat} {fm : MF} {ds : List D} {d : D} {g : IH} (hn : ds.length = n) (e : fm ds h = .ok d (h' ++ g)) (hl : h'.length = h.length) (hd : d.lo h.length = true) (hw : okB h.length h (h' ++ g)) : callC n fm ds h = .ok d h' := by
  unfold callC
  rw [if_pos hn, e]
  unfold clean
  dsimp only
  rw [if_pos ⟨hd, hw⟩, ← hl, List.take_left]
/-- a call that draws: the pen's cell stands at 1 -/
theorem callC_pen {n : Nat} {fm : MF} {ds : List D} {d : D} {z c c' : Cell} {g g' : IH} (hn : ds.length = n) (e : fm ds (z :: c :: g) = .ok d (z :: c' :: (g ++ g'))) (hd : ∀ k, 2 ≤ k → d.lo k = true) (hc : ∀ k, 2 ≤ k → Cell.lo k c' = true) : callC n fm ds (z :: c :: g) = .ok d (z :: c' :: g) :=
  callC_cut (h := z :: c :: g) (h' := z :: c' :: g) (g := g') hn (by simpa using e) rfl (hd _ (by simp)) (by simp [hc])
theorem callC_pen0 {n : Nat} {fm : MF} {ds : List D} {d : D} {z c c' : Cell} {g : IH} (hn : ds.length = n) (e : fm ds (z :: c :: g) = .ok d (z :: c' :: g)) : callC n fm ds (z :: c :: g) = .ok d (z :: c' :: g) := callC_len hn e rfl
/-- a call whose value is a cell of its own -/
theorem callC_new {n : Nat} {fm : MF} {ds : List D} {k : Nat} (hn : ds.length = n) (e : fm ds h = .ok (.ref k) h') (hk : h.length ≤ k) : callC n fm ds h = .ok (.ref k) h' := by
  unfold callC
  rw [if_pos hn, e]
  unfold clean
  dsimp only
  rw [if_neg]
  rintro ⟨h2, _⟩
  simp [D.lo] at h2
  omega
/-- a call whose value tells of cells of its own -/
theorem callC_tup {n : Nat} {fm : MF} {ds : List D} {d : D} (hn : ds.length = n) (e : fm ds h = .ok d h') (hd : d.lo h.length = false) : callC n fm ds h = .ok d h' := by
  unfold callC
  rw [if_pos hn, e]
  unfold clean
  dsimp only
  rw [if_neg]
  rintro ⟨h2, _⟩
  rw [hd] at h2
  cases h2
/-- a for over what stands still -/
theorem forM_inv {ds : List D} {gg : MG} (P : Nat → EV → IH → Prop) (Rs : RS → Prop)
    (step : ∀ i d env h, ds[i]? = some d → P i env h → ∃ e1, gg d env = some e1 ∧ (match s e1 h with
      | .nx e2 h2 => P (i + 1) e2 h2
      | .ct e2 h2 => P (i + 1) e2 h2
      | .bk e2 h2 => Rs (.nx e2 h2)
      | r => Rs r)) (fin : ∀ env h, P ds.length env h → Rs (.nx env h)) (h0 : P 0 env h) : Rs (forM (.st ds) gg s ((Src.st ds).many h + 1) 0 env h) := by
  have go : ∀ m i env h, i + m = ds.length + 1 → i ≤ ds.length → P i env h → Rs (forM (.st ds) gg s m i env h) := by
    intro m
    induction m with
    | zero => intro i env h e l; omega
    | succ m ih =>
      intro i env h e l p
      unfold forM
      rw [if_pos (show (Src.st ds).ok h = true from rfl)]
      show Rs (match ds[i]? with
        | none => _
        | some d => _)
      cases hd : ds[i]? with
      | none =>
        have : i = ds.length := by
          have := List.getElem?_eq_none_iff.mp hd
          omega
        subst this
        exact fin env h p
      | some d =>
        have hi := (List.getElem?_eq_some_iff.mp hd).1
        obtain ⟨e1, g1, st⟩ := step i d env h hd p
        dsimp only
        rw [g1]
        dsimp only
        revert st
        cases s e1 h with
        | nx e2 h2 => exact fun st => ih (i + 1) e2 h2 (by omega) (by omega) st
        | ct e2 h2 => exact fun st => ih (i + 1) e2 h2 (by omega) (by omega) st
        | bk e2 h2 => exact fun st => st
        | rt d2 h2 => exact fun st => st
        | ex c d2 e2 h2 => exact fun st => st
        | no => exact fun st => st
  exact go _ 0 env h (by show 0 + (ds.length + 1) = _; omega) (Nat.zero_le _) h0
theorem msWhile_inv {c : MT} (P : Nat → EV → IH → Prop) (Rs : RS → Prop)
    (step : ∀ m env h, P m env h → match c env h with
      | .ok true h1 => (match s env h1 with
        | .nx e2 h2 => ∃ m', m' < m ∧ P m' e2 h2
        | .ct e2 h2 => ∃ m', m' < m ∧ P m' e2 h2
        | .bk e2 h2 => Rs (.nx e2 h2)
        | r => Rs r)
      | .ok false h1 => Rs (.nx env h1)
      | .ex cl d h1 => Rs (.ex cl d env h1)
      | .no => Rs .no) : ∀ (m : Nat) (env : EV) (h : IH), P m env h → Rs (msWhile c s env h) := by
  intro m
  induction m using Nat.strongRecOn with
  | _ m ih =>
    intro env h p
    have st := step m env h p
    rw [msWhile_eq]
    revert st
    cases c env h with
    | no => exact fun st => st
    | ex cl d h1 => exact fun st => st
    | ok b h1 =>
      cases b with
      | false => exact fun st => st
      | true =>
        dsimp only
        cases s env h1 with
        | nx e2 h2 => exact fun ⟨m', l, p'⟩ => ih m' l e2 h2 p'
        | ct e2 h2 => exact fun ⟨m', l, p'⟩ => ih m' l e2 h2 p'
        | bk e2 h2 => exact fun st => st
        | rt d2 h2 => exact fun st => st
        | ex c d2 e2 h2 => exact fun st => st
        | no => exact fun st => st
/-- a comprehension over what stands still -/
theorem lcM_inv {ds : List D} {gg : MG} {n : Nat} (P : Nat → IH → Prop) (Rs : R D → Prop)
    (step : ∀ i d h, ds[i]? = some d → P i h → ∃ e1, gg d env = some e1 ∧ (match t e1 h with
      | .ok true h2 => ∃ y h3 acc, m e1 h2 = .ok y h3 ∧ h3[n]? = some (.lst acc) ∧ acc.length < 10000000 ∧ P (i + 1) (h3.set n (.lst (acc ++ [y])))
      | .ok false h2 => P (i + 1) h2
      | _ => False)) (fin : ∀ h, P ds.length h → Rs (.ok (.ref n) h)) (h0 : P 0 h) : Rs (lcM (.st ds) gg t m n ((Src.st ds).many h' + 1) 0 env h) := by
  have go : ∀ k i h, i + k = ds.length + 1 → i ≤ ds.length → P i h → Rs (lcM (.st ds) gg t m n k i env h) := by
    intro k
    induction k with
    | zero => intro i h e l; omega
    | succ k ih =>
      intro i h e l p
      unfold lcM
      rw [if_pos (show (Src.st ds).ok h = true from rfl)]
      show Rs (match ds[i]? with
        | none => _
        | some d => _)
      cases hd : ds[i]? with
      | none =>
        have : i = ds.length := by
          have := List.getElem?_eq_none_iff.mp hd
          omega
        subst this
        exact fin h p
      | some d =>
        have hi := (List.getElem?_eq_some_iff.mp hd).1
        obtain ⟨e1, g1, st⟩ := step i d h hd p
        dsimp only
        rw [g1]
        dsimp only
        revert st
        cases t e1 h with
        | no => exact fun st => st.elim
        | ex _ _ _ => exact fun st => st.elim
        | ok b h2 =>
          cases b with
          | false => exact fun st => ih (i + 1) h2 (by omega) (by omega) st
          | true =>
            rintro ⟨y, h3, acc, e3, e4, l4, p4⟩
            dsimp only
            rw [e3]
            dsimp only
            rw [e4]
            dsimp only
            rw [if_pos l4]
            exact ih (i + 1) _ (by omega) (by omega) p4
  exact go _ 0 h (by show 0 + (ds.length + 1) = _; omega) (Nat.zero_le _) h0
theorem get_last {h : IH} {c : Cell} : (h ++ [c])[h.length]? = some c := by simp
theorem set_last {h : IH} {c c' : Cell} : (h ++ [c]).set h.length c' = h ++ [c'] := by simp
/-- a comprehension of what is reckoned of each -/
theorem lcM_map {ds : List D} {gg : MG} (F : D → D) (hl : ds.length ≤ 9000000) (step : ∀ d ∈ ds, ∃ e1, gg d env = some e1 ∧ ∀ x, m e1 (h ++ [x]) = .ok (F d) (h ++ [x])) :
    lcM (.st ds) gg mYes m h.length ((Src.st ds).many h' + 1) 0 env (h ++ [.lst []]) = .ok (.ref h.length) (h ++ [.lst (ds.map F)]) := by
  refine lcM_inv (P := fun i h' => h' = h ++ [.lst ((ds.take i).map F)]) (Rs := fun r => r = .ok (.ref h.length) (h ++ [.lst (ds.map F)])) ?_ ?_ ?_
  · intro i d h' hd hp
    subst hp
    obtain ⟨e1, g1, st⟩ := step d (List.mem_of_getElem? hd)
    refine ⟨e1, g1, ?_⟩
    show ∃ y h3 acc, m e1 _ = .ok y h3 ∧ _
    refine ⟨F d, _, _, st _, get_last, ?_, ?_⟩
    · rw [List.length_map, List.length_take]
      omega
    · rw [set_last, List.take_add_one, hd]
      simp
  · intro h' hp
    rw [hp, List.take_length]
  · simp
theorem lcM_filter {ds : List D} {gg : MG} (F : D → D) (p : D → Bool) (hl : ds.length ≤ 9000000) (step : ∀ d ∈ ds, ∃ e1, gg d env = some e1 ∧ (∀ x, t e1 (h ++ [x]) = .ok (p d) (h ++ [x])) ∧ ∀ x, p d = true → m e1 (h ++ [x]) = .ok (F d) (h ++ [x])) :
    lcM (.st ds) gg t m h.length ((Src.st ds).many h' + 1) 0 env (h ++ [.lst []]) = .ok (.ref h.length) (h ++ [.lst ((ds.filter p).map F)]) := by
  refine lcM_inv (P := fun i h' => h' = h ++ [.lst (((ds.take i).filter p).map F)]) (Rs := fun r => r = .ok (.ref h.length) (h ++ [.lst ((ds.filter p).map F)])) ?_ ?_ ?_
  · intro i d h' hd hp
    subst hp
    obtain ⟨e1, g1, tt, st⟩ := step d (List.mem_of_getElem? hd)
    refine ⟨e1, g1, ?_⟩
    rw [tt]
    cases hpd : p d with
    | true =>
      dsimp only
      refine ⟨F d, _, _, st _ hpd, get_last, ?_, ?_⟩
      · rw [List.length_map]
        have := List.length_filter_le p (ds.take i)
        rw [List.length_take] at this
        omega
      · rw [set_last, List.take_add_one, hd]
        simp [hpd]
    | false =>
      dsimp only
      rw [List.take_add_one, hd]
      simp [hpd]
  · intro h' hp
    rw [hp, List.take_length]
  · simp
theorem joinN_nil : ∀ ys : List (List Nat), joinN [] ys = ys.flatten
  | [] => rfl
  | [x] => by simp [joinN]
  | x :: y :: r => by
    unfold joinN
    rw [joinN_nil (y :: r)]
    simp
theorem sum_lens (ys : List (List Nat)) : (ys.map List.length).sum = ys.flatten.length := by
  induction ys with
  | nil => rfl
  | cons y ys ih => rw [List.map_cons, List.sum_cons, ih, List.flatten_cons, List.length_append]
theorem join_nil_eq {h : IH} {n : Nat} {ys : List (List Nat)} (e : h[n]? = some (.lst (ys.map D.str))) (l : ys.flatten.length ≤ 10000000) : fJoin (.str []) [.ref n] h = .ok (.str ys.flatten) h := by
  unfold fJoin; dsimp only
  have e1 : (seqOf h (.ref n)).bind (allM D.str?) = some ys := by
    unfold seqOf
    dsimp only
    rw [e]
    exact allM_mkStrs ys
  rw [e1]
  dsimp only
  rw [sum_lens, List.length_nil, Nat.mul_zero, Nat.add_zero, joinN_nil, if_pos l]
theorem ixN_toNat {n : Nat} {i : Int} (h0 : 0 ≤ i) (h1 : i < n) : ixN n i = some i.toNat := by
  unfold ixN
  rw [if_pos h0, if_pos h1]
theorem dIx_str {s : List Nat} {i : Int} {c : Nat} (h0 : 0 ≤ i) (e : s[i.toNat]? = some c) (l : s.length ≤ 10000000) : dIx (.str s) (.int i) h = .ok (.str [c]) h := by
  have hi := (List.getElem?_eq_some_iff.mp e).1
  show getD' _ _ _ = _
  unfold getD'
  dsimp only
  rw [ixN_toNat h0 (by omega)]
  dsimp only [Option.bind]
  rw [e]
  dsimp only
  rw [if_pos l]
theorem dIx_seq {o : D} {xs : List D} {i : Int} {d : D} (hs : seqOf h o = some xs) (h0 : 0 ≤ i) (e : xs[i.toNat]? = some d) : dIx o (.int i) h = .ok d h := by
  have hi := (List.getElem?_eq_some_iff.mp e).1
  show getD' _ _ _ = _
  unfold getD'
  cases o with
  | str s => simp [seqOf] at hs
  | _ =>
    dsimp only
    rw [hs]
    dsimp only [Option.bind]
    rw [ixN_toNat h0 (by omega)]
    dsimp only [Option.bind]
    rw [e]
/-- an item of a list's cell -/
theorem dIx_ref {n : Nat} {xs : List D} {i : Int} {d : D} (hs : h[n]? = some (.lst xs)) (h0 : 0 ≤ i) (e : xs[i.toNat]? = some d) : dIx (.ref n) (.int i) h = .ok d h := dIx_seq (by unfold seqOf; dsimp only; rw [hs]) h0 e
theorem putD_ref {n : Nat} {xs : List D} {i : Int} {v : D} (hs : h[n]? = some (.lst xs)) (h0 : 0 ≤ i) (l : i < xs.length) : putD (.ref n) (.int i) v h = some (h.set n (.lst (xs.set i.toNat v))) := by
  unfold putD
  dsimp only
  rw [hs]
  dsimp only
  rw [ixN_toNat h0 l]
  rfl
theorem getL_ref {n : Nat} {xs : List D} {i : Int} {d : D} (hs : h[n]? = some (.lst xs)) (h0 : 0 ≤ i) (e : xs[i.toNat]? = some d) : getL (.ref n) (.int i) h = some d := by
  have hi := (List.getElem?_eq_some_iff.mp e).1
  unfold getL
  dsimp only
  unfold lstOf
  dsimp only
  rw [hs]
  dsimp only [Option.bind]
  rw [ixN_toNat h0 (by omega)]
  dsimp only [Option.bind]
  rw [e]
theorem sIx_int {n d : Nat} {i : Int} (h0 : 0 ≤ i) : HT.sIx n d (some i) = min i.toNat n := by
  show (if i < 0 then (i + (n : Int)).toNat else min i.toNat n) = _
  rw [if_neg (by omega)]
theorem cut_two {A : Type} (xs : List A) (a b : Nat) : (xs.drop (min a xs.length)).take (min b xs.length - min a xs.length) = (xs.drop a).take (b - a) := by
  apply List.ext_getElem?
  intro j
  rw [List.getElem?_take, List.getElem?_take, List.getElem?_drop, List.getElem?_drop]
  by_cases ha : a ≤ xs.length
  · rw [Nat.min_eq_left ha]
    by_cases hb : b ≤ xs.length
    · rw [Nat.min_eq_left hb]
    · rw [Nat.min_eq_right (by omega)]
      by_cases hj : j < xs.length - a
      · rw [if_pos hj, if_pos (by omega)]
      · rw [if_neg hj, List.getElem?_eq_none (by omega)]
        split <;> rfl
  · rw [List.getElem?_eq_none (i := a + j) (by omega), List.getElem?_eq_none (i := min a xs.length + j) (by rw [Nat.min_eq_right (show xs.length ≤ a by omega)]; omega)]
    split <;> split <;> rfl
theorem cutN_two {xs : List Nat} {i j : Int} (h0 : 0 ≤ i) (h1 : 0 ≤ j) : cutN xs (some i) (some j) = (xs.drop i.toNat).take (j.toNat - i.toNat) := by
  unfold cutN
  rw [sIx_int h0, sIx_int h1, cut_two]
theorem cutN_to {xs : List Nat} {j : Int} (h1 : 0 ≤ j) : cutN xs none (some j) = xs.take j.toNat := by
  unfold cutN
  rw [sIx_int h1, HT.sIx_none, List.drop_zero, Nat.sub_zero]
  apply List.ext_getElem?
  intro k
  rw [List.getElem?_take, List.getElem?_take]
  by_cases hk : k < j.toNat
  · rw [if_pos hk]
    by_cases hx : k < xs.length
    · rw [if_pos (by omega)]
    · rw [List.getElem?_eq_none (by omega)]
      split <;> rfl
  · rw [if_neg hk, if_neg (by omega)]
theorem cutN_from {xs : List Nat} {i : Int} (h1 : 0 ≤ i) : cutN xs (some i) none = xs.drop i.toNat := by
  unfold cutN
  rw [sIx_int h1, HT.sIx_none]
  have e := cut_two xs i.toNat xs.length
  rw [Nat.min_self] at e
  rw [e, List.take_of_length_le (by rw [List.length_drop]; exact Nat.le_refl _)]
theorem cutD_two {xs : List D} {i j : Int} (h0 : 0 ≤ i) (h1 : 0 ≤ j) : cutD xs (some i) (some j) = (xs.drop i.toNat).take (j.toNat - i.toNat) := by
  unfold cutD
  rw [sIx_int h0, sIx_int h1, cut_two]
theorem cutD_to {xs : List D} {j : Int} (h1 : 0 ≤ j) : cutD xs none (some j) = xs.take j.toNat := by
  unfold cutD
  rw [sIx_int h1, HT.sIx_none, List.drop_zero, Nat.sub_zero]
  apply List.ext_getElem?
  intro k
  rw [List.getElem?_take, List.getElem?_take]
  by_cases hk : k < j.toNat
  · rw [if_pos hk]
    by_cases hx : k < xs.length
    · rw [if_pos (by omega)]
    · rw [List.getElem?_eq_none (by omega)]
      split <;> rfl
  · rw [if_neg hk, if_neg (by omega)]
theorem cutD_from {xs : List D} {i : Int} (h1 : 0 ≤ i) : cutD xs (some i) none = xs.drop i.toNat := by
  unfold cutD
  rw [sIx_int h1, HT.sIx_none]
  have e := cut_two xs i.toNat xs.length
  rw [Nat.min_self] at e
  rw [e, List.take_of_length_le (by rw [List.length_drop]; exact Nat.le_refl _)]
theorem bLen_str_if {s : List Nat} : bLen [.str s] h = if s.length ≤ 10000000 then .ok (.int (s.length : Nat)) h else .no := rfl
@[simp] theorem bLen_tup {l : List D} : bLen [.tup l] h = .ok (.int (l.length : Nat)) h := rfl
theorem bLen_ref {n : Nat} {xs : List D} (e : h[n]? = some (.lst xs)) : bLen [.ref n] h = .ok (.int (xs.length : Nat)) h := by
  unfold bLen
  dsimp only
  rw [e]
@[simp] theorem bAbs_int {i : Int} : bAbs [.int i] h = .ok (.int (if i < 0 then -i else i)) h := rfl
@[simp] theorem bMax2_int {i j : Int} : bMax2 [.int i, .int j] h = .ok (.int (if j > i then j else i)) h := rfl
@[simp] theorem bMin2_int {i j : Int} : bMin2 [.int i, .int j] h = .ok (.int (if j < i then j else i)) h := rfl
@[simp] theorem bInt1_int {i : Int} : bInt1 [.int i] h = .ok (.int i) h := rfl
@[simp] theorem bInt1_bl {b : Bool} : bInt1 [.bl b] h = .ok (.int (if b then 1 else 0)) h := rfl
@[simp] theorem dIAdd_int {i j : Int} : dIAdd (.int i) (.int j) h = .ok (.int (i + j)) h := rfl
theorem dIAdd_str_if {a b : List Nat} : dIAdd (.str a) (.str b) h = if a.length + b.length ≤ 10000000 then .ok (.str (a ++ b)) h else .no := rfl
@[simp] theorem dISub_int {i j : Int} : dISub (.int i) (.int j) h = .ok (.int (i - j)) h := rfl
theorem sliceD_str_if {s : List Nat} {l u : Option Int} : sliceD (.str s) l u h = if s.length ≤ 10000000 then .ok (.str (cutN s l u)) h else .no := rfl
@[simp] theorem sliceD_tup {s : List D} {l u : Option Int} : sliceD (.tup s) l u h = .ok (.tup (cutD s l u)) h := rfl
theorem is_str_str {s : List Nat} : isT "str" h (.str s) = some true := by
  show kitB "str" "str" = some true
  decide +kernel
theorem set_same {n : Nat} {c : Cell} (e : h[n]? = some c) : h.set n c = h := by
  apply List.ext_getElem?
  intro j
  by_cases hj : n = j
  · subst hj
    rw [List.getElem?_set_self (List.getElem?_eq_some_iff.mp e).1, e]
  · rw [List.getElem?_set_ne hj]
theorem get_set {n : Nat} {c c' : Cell} (e : h[n]? = some c) : (h.set n c')[n]? = some c' := List.getElem?_set_self (List.getElem?_eq_some_iff.mp e).1
theorem get_set_ne {n j : Nat} {c : Cell} (ne : n ≠ j) : (h.set n c)[j]? = h[j]? := List.getElem?_set_ne ne
@[simp] theorem loL_ints {n : Nat} (ns : List Int) : D.loL n (ns.map D.int) = true := by
  induction ns with
  | nil => simp [D.loL]
  | cons x xs ih => simp [D.loL, D.lo, ih]
@[simp] theorem loL_strs {n : Nat} (ns : List (List Nat)) : D.loL n (ns.map D.str) = true := by
  induction ns with
  | nil => simp [D.loL]
  | cons x xs ih => simp [D.loL, D.lo, ih]
/-! locked at once -/
open Classical in
/-- a new list that is locked at once -/
noncomputable def fzD (h h1 : IH) (xs : List D) : R D := fzR h (newL h1 xs)
theorem fz_newL {xs : List D} : fzR h (newL h' xs) = fzD h h' xs := rfl
theorem fz_bind {r : R A} {k : A → IH → R D} : fzR h (r.bind k) = r.bind fun a h1 => fzR h (k a h1) := by cases r <;> rfl
theorem fz_ite {p : Prop} [Decidable p] {r1 r2 : R D} : fzR h (if p then r1 else r2) = if p then fzR h r1 else fzR h r2 := by split <;> rfl
@[simp] theorem fz_no : fzR h .no = .no := rfl
@[simp] theorem fz_ex {c : Str} {d : XF} : fzR h (.ex c d h') = .ex c d h' := rfl
@[simp] theorem fz_non : fzR h (.ok .non h') = .ok .non h' := rfl
@[simp] theorem fz_bl {b : Bool} : fzR h (.ok (.bl b) h') = .ok (.bl b) h' := rfl
@[simp] theorem fz_int {b : Int} : fzR h (.ok (.int b) h') = .ok (.int b) h' := rfl
@[simp] theorem fz_str {b : List Nat} : fzR h (.ok (.str b) h') = .ok (.str b) h' := rfl
@[simp] theorem fz_tup {b : List D} : fzR h (.ok (.tup b) h') = .ok (.tup b) h' := rfl
@[simp] theorem fz_fl {b : List D} : fzR h (.ok (.fl b) h') = .ok (.fl b) h' := rfl
@[simp] theorem fz_fd {ks : List DKey} {b : List D} : fzR h (.ok (.fd ks b) h') = .ok (.fd ks b) h' := rfl
theorem fzR_at {n : Nat} {xs : List D} (e : h'[n]? = some (.lst xs)) (hn : h.length ≤ n) (lo : D.loL h.length xs = true) (ok : okB h.length h h') : fzR h (.ok (.ref n) h') = .ok (.fl xs) (h'.take h.length) := by
  unfold fzR
  dsimp only
  rw [e]
  dsimp only
  rw [if_pos ⟨hn, lo, ok⟩]
theorem fzD_same {xs : List D} (lo : D.loL h.length xs = true) : fzD h h xs = .ok (.fl xs) h := by
  unfold fzD newL
  rw [fzR_at (xs := xs) (by simp) (Nat.le_refl _) lo okB_self]
  simp
theorem fzD_pen {xs : List D} {z c c' : Cell} {g : IH} (lo : ∀ k, D.loL k xs = true) (lc : ∀ k, Cell.lo k c' = true) : fzD (z :: c :: g) (z :: c' :: g) xs = .ok (.fl xs) (z :: c' :: g) := by
  unfold fzD newL
  rw [fzR_at (n := (z :: c' :: g).length) (xs := xs) (by simp) (by simp) (lo _) (by simp [lc])]
  simp
/-- with old cells changed: nothing new is told of -/
theorem fzD_len {xs : List D} (hl : h'.length = h.length) (lo : D.loL h.length xs = true) (ok : okB h.length h (h' ++ [.lst xs])) : fzD h h' xs = .ok (.fl xs) h' := by
  unfold fzD newL
  rw [fzR_at (xs := xs) (by simp) (by omega) lo ok]
  simp [← hl]
theorem ap_mFz0 : mFz m env h = fzR h (m env h) := rfl
@[simp] theorem ap_mFz_lst : mFz (mLst ta) env h = (ta env h).bind fun xs h1 => if xs.length ≤ 10000000 then fzD h h1 xs else .no := by
  rw [ap_mFz0, ap_mLst, fz_bind]
  congr 1
  funext xs h1
  rw [fz_ite]
  rfl
@[simp] theorem ap_mFz_op : mFz (mOp f a b) env h = (a env h).bind fun x h1 => (b env h1).bind fun y h2 => fzR h (f x y h2) := by
  rw [ap_mFz0, ap_mOp, fz_bind]
  congr 1
  funext x h1
  rw [fz_bind]
@[simp] theorem ap_mFz_slice {l u : MO} : mFz (mSlice m l u) env h = (m env h).bind fun x h1 => (l env h1).bind fun l h2 => (u env h2).bind fun u h3 => fzR h (sliceD x l u h3) := by
  rw [ap_mFz0, ap_mSlice, fz_bind]
  congr 1
  funext x h1
  rw [fz_bind]
  congr 1
  funext x h1
  rw [fz_bind]
@[simp] theorem ap_mFz_B {fb : List D → IH → R D} : mFz (mB fb ta) env h = (ta env h).bind fun xs h1 => fzR h (fb xs h1) := by rw [ap_mFz0, ap_mB, fz_bind]
@[simp] theorem ap_mFz_call {n : Nat} {fm : MF} : mFz (mCall n fm ta) env h = (ta env h).bind fun ds h1 => fzR h (callC n fm ds h1) := by rw [ap_mFz0, ap_mCall, fz_bind]
@[simp] theorem ap_msRaise {x : Str} : msRaise x env h = .ex x none env h := rfl
@[simp] theorem ap_msFz_fl {i : Nat} {xs : List D} {b : MS} (e : env[i]? = some (some (.fl xs))) : msFz i b env h = b env h := by unfold msFz; rw [e]
theorem ap_msFz {i n : Nat} {xs : List D} {b : MS} (e : env[i]? = some (some (.ref n))) (e2 : h[n]? = some (.lst xs)) : msFz i b env h = b (env.set i (some (.fl xs))) (h.set n (.frz xs)) := by unfold msFz; rw [e]; dsimp only; rw [e2]
theorem dAdd_fl {a b : List D} : dAdd (.fl a) (.fl b) h = if a.length + b.length ≤ 10000000 then newL h (a ++ b) else .no := rfl
theorem dAdd_tup {a b : List D} : dAdd (.tup a) (.tup b) h = if a.length + b.length ≤ 10000000 then .ok (.tup (a ++ b)) h else .no := rfl
theorem sliceD_fl {l : List D} {lo hi : Option Int} : sliceD (.fl l) lo hi h = newL h (cutD l lo hi) := rfl
theorem bListX_str {s : List Nat} : bListX [.str s] h = if s.length ≤ 10000000 then newL h (sgD s) else .no := rfl
theorem bListX_fl {s : List D} : bListX [.fl s] h = newL h s := rfl
theorem bListX_tup {s : List D} : bListX [.tup s] h = newL h s := rfl
@[simp] theorem bTupleX_fl {s : List D} : bTupleX [.fl s] h = .ok (.tup s) h := rfl
@[simp] theorem bTupleX_tup {s : List D} : bTupleX [.tup s] h = .ok (.tup s) h := rfl
@[simp] theorem bLen_fl {l : List D} : bLen [.fl l] h = .ok (.int (l.length : Nat)) h := rfl
@[simp] theorem bSum_fl {ns : List Int} : bSum [.fl (ns.map D.int)] h = .ok (.int ns.sum) h := by
  show (match (some (ns.map D.int)).bind (allM D.int?) with | some ns => R.ok (D.int ns.sum) h | none => .no) = _
  simp
@[simp] theorem bAll_fl {ns : List Bool} : bAll [.fl (ns.map D.bl)] h = .ok (.bl (ns.all id)) h := by
  show (match (some (ns.map D.bl)).bind (allM D.bl?) with | some bs => R.ok (D.bl (bs.all id)) h | none => .no) = _
  simp
@[simp] theorem bAny_fl {ns : List Bool} : bAny [.fl (ns.map D.bl)] h = .ok (.bl (ns.any id)) h := by
  show (match (some (ns.map D.bl)).bind (allM D.bl?) with | some bs => R.ok (D.bl (bs.any id)) h | none => .no) = _
  simp
theorem bSorted_fl {ns : List Int} : bSorted [.fl (ns.map D.int)] h = newL h ((isrt ns).map D.int) := by
  show (match (some (ns.map D.int)).bind (allM D.int?) with | some ns => R.ok (D.ref h.length) (h ++ [Cell.lst ((isrt ns).map D.int)]) | none => .no) = _
  simp [newL]
@[simp] theorem isT_fl {T : String} {b : List D} : isT T h (.fl b) = kitB "list" T := rfl
@[simp] theorem isT_fd {T : String} {ks : List DKey} {b : List D} : isT T h (.fd ks b) = kitB "dict" T := rfl
@[simp] theorem tyD_str {T : String} {s : List Nat} : tyD T h (.str s) = (T == "str") := rfl
@[simp] theorem tyD_fl {T : String} {s : List D} : tyD T h (.fl s) = (T == "list") := rfl
@[simp] theorem loL_nil {n : Nat} : D.loL n [] = true := rfl
@[simp] theorem loL_cons {n : Nat} {d : D} {ds : List D} : D.loL n (d :: ds) = (D.lo n d && D.loL n ds) := rfl
@[simp] theorem lo_int {n : Nat} {i : Int} : D.lo n (.int i) = true := rfl
@[simp] theorem lo_bl {n : Nat} {i : Bool} : D.lo n (.bl i) = true := rfl
@[simp] theorem lo_non {n : Nat} : D.lo n .non = true := rfl
@[simp] theorem lo_str {n : Nat} {i : List Nat} : D.lo n (.str i) = true := rfl
@[simp] theorem lo_tup {n : Nat} {i : List D} : D.lo n (.tup i) = D.loL n i := rfl
@[simp] theorem lo_fl {n : Nat} {i : List D} : D.lo n (.fl i) = D.loL n i := rfl
@[simp] theorem lo_fd {n : Nat} {ks : List DKey} {i : List D} : D.lo n (.fd ks i) = D.loL n i := rfl
@[simp] theorem lo_ref {n i : Nat} : D.lo n (.ref i) = decide (i < n) := rfl
@[simp] theorem clo_lst {n : Nat} {i : List D} : Cell.lo n (.lst i) = D.loL n i := rfl
theorem loL_of {n : Nat} : ∀ {ds : List D}, (∀ d ∈ ds, D.lo n d = true) → D.loL n ds = true
  | [], _ => rfl
  | d :: ds, h => by simp [h d List.mem_cons_self, loL_of fun x hx => h x (List.mem_cons_of_mem _ hx)]
theorem loL_mem {n : Nat} : ∀ {ds : List D}, D.loL n ds = true → ∀ d ∈ ds, D.lo n d = true
  | d :: ds, h, x, hx => by
    simp at h
    rcases List.mem_cons.mp hx with rfl | hx
    · exact h.1
    · exact loL_mem h.2 x hx
@[simp] theorem loL_map {T : Type} {n : Nat} {f : T → D} {l : List T} : D.loL n (l.map f) = l.all fun x => D.lo n (f x) := by
  induction l with
  | nil => rfl
  | cons x l ih => simp [ih]
@[simp] theorem loL_app {n : Nat} {a b : List D} : D.loL n (a ++ b) = (D.loL n a && D.loL n b) := by
  induction a with
  | nil => simp
  | cons x l ih => simp [ih, Bool.and_assoc]
/-! numbers from nought -/
def nD (x : Nat) : D := .int (x : Nat)
theorem nD_eq (x : Nat) : nD x = .int (x : Nat) := rfl
@[simp] theorem lo_nD {n x : Nat} : D.lo n (nD x) = true := rfl
theorem nD_inj {a b : Nat} : nD a = nD b ↔ a = b := ⟨fun z => by injection z with z; omega, fun z => by rw [z]⟩
theorem nD_map (l : List Nat) : l.map nD = (l.map fun (x : Nat) => (x : Int)).map D.int := by rw [List.map_map]; rfl
theorem nats_of {m : Nat} : ∀ {ys : List D}, (∀ y ∈ ys, ∃ x, y = nD x ∧ x < m) → ∃ row : List Nat, ys = row.map nD ∧ ∀ x ∈ row, x < m
  | [], _ => ⟨[], rfl, by simp⟩
  | y :: ys, hp => by
    obtain ⟨x, rfl, hx⟩ := hp y List.mem_cons_self
    obtain ⟨row, rfl, hr⟩ := nats_of fun z hz => hp z (List.mem_cons_of_mem _ hz)
    exact ⟨x :: row, rfl, by simpa using ⟨hx, hr⟩⟩
theorem append_at {n : Nat} {xs : List D} {y : D} (e : h[n]? = some (.lst xs)) (l : xs.length < 10000000) : fAppend (.ref n) [y] h = .ok .non (h.set n (.lst (xs ++ [y]))) := by
  unfold fAppend
  dsimp only
  rw [e]
  dsimp only
  rw [if_pos l]
theorem tyD_ref {n : Nat} {xs : List D} (e : h[n]? = some (.lst xs)) : tyD "list" h (.ref n) = true := by
  unfold tyD
  dsimp only
  rw [e]
  rfl
theorem lstOf_ref {n : Nat} {xs : List D} (e : h[n]? = some (.lst xs)) : lstOf h (.ref n) = some xs := by
  unfold lstOf
  dsimp only
  rw [e]
theorem seqOf_ref {n : Nat} {xs : List D} (e : h[n]? = some (.lst xs)) : seqOf h (.ref n) = some xs := by
  unfold seqOf
  dsimp only
  rw [e]
@[simp] theorem seqOf_fl {l : List D} : seqOf h (.fl l) = some l := rfl
@[simp] theorem seqOf_tup {l : List D} : seqOf h (.tup l) = some l := rfl
@[simp] theorem lstOf_fl {l : List D} : lstOf h (.fl l) = some l := rfl
theorem allM_pyInts {k : Nat} (ns : List Int) : allM (D.py h (k + 1)) (ns.map D.int) = some (ns.map PyData.int) := by
  induction ns with
  | nil => rfl
  | cons z zs ih =>
    rw [List.map_cons, List.map_cons]
    unfold allM
    rw [ih]
    rfl
theorem dIn_ints {neg : Bool} {a : Int} {y : D} {ns : List Int} (e : seqOf h y = some (ns.map D.int)) : dIn neg (.int a) y h = .ok (.bl (if neg then !decide (a ∈ ns) else decide (a ∈ ns))) h := by
  have ea : (ns.map PyData.int).any (fun z => PyData.eqv z (.int a)) = decide (a ∈ ns) := by
    clear e
    induction ns with
    | nil => rfl
    | cons n ns ih =>
      have hb : (n == a) = decide (a = n) := by
        by_cases hz : a = n
        · subst hz; simp
        · rw [decide_eq_false hz]; exact beq_eq_false_iff_ne.mpr fun z => hz z.symm
      simp only [List.map_cons, List.any_cons, ih, PyData.eqv, List.mem_cons, Bool.decide_or, hb]
  unfold dIn
  split
  · rename_i h1 h2; cases h2
  · rw [show D.py h 50 (.int a) = some (.int a) from rfl, e]
    show (match some (PyData.int a), allM (D.py h (48 + 1)) (ns.map D.int) with | some a, some bs => R.ok (D.bl _) h | _, _ => .no) = _
    rw [allM_pyInts]
    dsimp only
    rw [ea]
theorem dIn_nats {neg : Bool} {a : Nat} {y : D} {ns : List Nat} (e : seqOf h y = some (ns.map nD)) : dIn neg (.int (a : Nat)) y h = .ok (.bl (if neg then !decide (a ∈ ns) else decide (a ∈ ns))) h := by
  rw [dIn_ints (ns := ns.map fun (x : Nat) => (x : Int)) (by rw [e, nD_map])]
  have : decide (((a : Nat) : Int) ∈ ns.map fun (x : Nat) => (x : Int)) = decide (a ∈ ns) := by
    refine decide_eq_decide.mpr ⟨fun hm => ?_, fun hm => List.mem_map.mpr ⟨a, hm, rfl⟩⟩
    obtain ⟨x, hx, e2⟩ := List.mem_map.mp hm
    have : x = a := by omega
    rw [← this]
    exact hx
  rw [this]
theorem dIx_nat {o : D} {xs : List D} {n : Nat} {d : D} (hs : seqOf h o = some xs) (e : xs[n]? = some d) : dIx o (.int (n : Nat)) h = .ok d h := dIx_seq hs (by omega) (by simpa using e)
theorem idxOf_cast (ns : List Nat) (y : Nat) : (ns.map fun (x : Nat) => (x : Int)).idxOf (y : Int) = ns.idxOf y := by
  induction ns with
  | nil => rfl
  | cons n ns ih =>
    rw [List.map_cons, List.idxOf_cons, List.idxOf_cons, ih]
    have : (((n : Nat) : Int) == (y : Int)) = (n == y) := by
      rw [Bool.eq_iff_iff, beq_iff_eq, beq_iff_eq]
      omega
    rw [this]
theorem fIndexL_nats {ns : List Nat} {y : Nat} (hy : y ∈ ns) : fIndexL (.fl (ns.map nD)) [.int (y : Nat)] h = .ok (nD (ns.idxOf y)) h := by
  unfold fIndexL
  dsimp only
  have e : (lstOf h (.fl (ns.map nD))).bind (allM D.int?) = some (ns.map fun (x : Nat) => (x : Int)) := by
    rw [nD_map]
    exact allM_mkInts _
  rw [e]
  dsimp only
  rw [if_pos (List.mem_map.mpr ⟨y, hy, rfl⟩), idxOf_cast]
  rfl
theorem iRange1_of {j : Int} {k : Nat} (e : ta env h = .ok [.int j] h') (hj : j = (k : Nat)) (l : k ≤ 10000000) : iRange1 ta env h = .ok (.st (intsFrom 0 k)) h' := by
  subst hj
  rw [ap_iRange1, e]
  rw [bind_ok]
  dsimp only
  rw [if_pos ⟨by omega, by omega⟩, Int.toNat_natCast]
theorem iRange2_of {i j : Int} {k : Nat} (e : ta env h = .ok [.int i, .int j] h') (hj : j = i + (k : Nat)) (l0 : -10000000 ≤ i) (l : j ≤ 10000000) : iRange2 ta env h = .ok (.st (intsFrom i k)) h' := by
  subst hj
  rw [ap_iRange2, e]
  rw [bind_ok]
  dsimp only
  rw [if_pos ⟨by omega, by omega, by omega, by omega⟩, show (i + (k : Nat) - i).toNat = k by omega]
/-! what a loop's turn leaves -/
def Nx (P : EV → IH → Prop) (Rs : RS → Prop) : RS → Prop
  | .nx e h => P e h
  | .ct e h => P e h
  | .bk e h => Rs (.nx e h)
  | .rt d h => Rs (.rt d h)
  | .ex c d e h => Rs (.ex c d e h)
  | .no => Rs .no
section
variable {P : EV → IH → Prop} {Rs : RS → Prop}
@[simp] theorem Nx_nx : Nx P Rs (.nx env h) = P env h := rfl
@[simp] theorem Nx_ct : Nx P Rs (.ct env h) = P env h := rfl
@[simp] theorem Nx_bk : Nx P Rs (.bk env h) = Rs (.nx env h) := rfl
@[simp] theorem Nx_rt : Nx P Rs (.rt d h) = Rs (.rt d h) := rfl
@[simp] theorem Nx_ex {c : Str} {x : XF} : Nx P Rs (.ex c x env h) = Rs (.ex c x env h) := rfl
end
/-- a for over what stands still, by an invariant -/
theorem for_inv {ds : List D} {gg : MG} (P : Nat → EV → IH → Prop) (Rs : RS → Prop) (h0 : P 0 env h)
    (step : ∀ i d env h, ds[i]? = some d → P i env h → ∃ e1, gg d env = some e1 ∧ Nx (P (i + 1)) Rs (s e1 h)) (fin : ∀ env h, P ds.length env h → Rs (.nx env h)) : Rs (forM (.st ds) gg s ((Src.st ds).many h' + 1) 0 env h) := by
  refine forM_inv (h := h) P Rs (fun i d env h hd hp => ?_) fin h0
  obtain ⟨e1, g1, st⟩ := step i d env h hd hp
  refine ⟨e1, g1, ?_⟩
  revert st
  cases s e1 h <;> exact fun z => z
/-- a for that runs to its end -/
theorem for_nx {ds : List D} {gg : MG} (P : Nat → EV → IH → Prop) (h0 : P 0 env h)
    (step : ∀ i d env h, ds[i]? = some d → P i env h → ∃ e1 e2 h2, gg d env = some e1 ∧ s e1 h = .nx e2 h2 ∧ P (i + 1) e2 h2) : ∃ e2 h2, forM (.st ds) gg s ((Src.st ds).many h + 1) 0 env h = .nx e2 h2 ∧ P ds.length e2 h2 :=
  for_inv P (fun r => ∃ e2 h2, r = .nx e2 h2 ∧ P ds.length e2 h2) h0 (fun i d env h hd hp => by
    obtain ⟨e1, e2, h2, g1, g2, g3⟩ := step i d env h hd hp
    exact ⟨e1, g1, by rw [g2]; exact g3⟩) fun env h hp => ⟨env, h, rfl, hp⟩
/-- a for that runs to its end, or returns -/
theorem for_rt {ds : List D} {gg : MG} (P : Nat → EV → IH → Prop) (Q : D → IH → Prop) (h0 : P 0 env h)
    (step : ∀ i d env h, ds[i]? = some d → P i env h → ∃ e1, gg d env = some e1 ∧ ((∃ e2 h2, s e1 h = .nx e2 h2 ∧ P (i + 1) e2 h2) ∨ ∃ x h2, s e1 h = .rt x h2 ∧ Q x h2)) :
    (∃ e2 h2, forM (.st ds) gg s ((Src.st ds).many h + 1) 0 env h = .nx e2 h2 ∧ P ds.length e2 h2) ∨ ∃ x h2, forM (.st ds) gg s ((Src.st ds).many h + 1) 0 env h = .rt x h2 ∧ Q x h2 :=
  for_inv P (fun r => (∃ e2 h2, r = .nx e2 h2 ∧ P ds.length e2 h2) ∨ ∃ x h2, r = .rt x h2 ∧ Q x h2) h0 (fun i d env h hd hp => by
    obtain ⟨e1, g1, ⟨e2, h2, g2, g3⟩ | ⟨x, h2, g2, g3⟩⟩ := step i d env h hd hp
    · exact ⟨e1, g1, by rw [g2]; exact g3⟩
    · exact ⟨e1, g1, by rw [g2]; exact .inr ⟨x, h2, rfl, g3⟩⟩) fun env h hp => .inl ⟨env, h, rfl, hp⟩
theorem while_nx {c : MT} (P : Nat → EV → IH → Prop) (m : Nat) (env : EV) (h : IH) (h0 : P m env h)
    (step : ∀ m env h, P m env h → (∃ e2 h2, c env h = .ok true h ∧ s env h = .nx e2 h2 ∧ ∃ m', m' < m ∧ P m' e2 h2) ∨ c env h = .ok false h) : ∃ m e2 h2, msWhile c s env h = .nx e2 h2 ∧ P m e2 h2 ∧ c e2 h2 = .ok false h2 := by
  refine msWhile_inv P (fun r => ∃ m e2 h2, r = .nx e2 h2 ∧ P m e2 h2 ∧ c e2 h2 = .ok false h2) (fun m env h p => ?_) m env h h0
  rcases step m env h p with ⟨e2, h2, g1, g2, g3⟩ | g1
  · rw [g1]; dsimp only; rw [g2]
    exact g3
  · rw [g1]
    exact ⟨m, env, h, rfl, p, g1⟩
theorem while_inv {c : MT} (P : Nat → EV → IH → Prop) (Rs : RS → Prop) (m : Nat) (env : EV) (h : IH) (h0 : P m env h)
    (step : ∀ m env h, P m env h → ∃ b, c env h = .ok b h ∧ (if b = true then Nx (fun e2 h2 => ∃ m', m' < m ∧ P m' e2 h2) Rs (s env h) else Rs (.nx env h))) : Rs (msWhile c s env h) := by
  refine msWhile_inv P Rs (fun m env h p => ?_) m env h h0
  obtain ⟨b, e, st⟩ := step m env h p
  rw [e]
  cases b with
  | false => simpa using st
  | true =>
    simp only [if_true] at st
    dsimp only
    revert st
    cases s env h <;> exact fun z => z
/-- a comprehension that is locked at once: of what is reckoned of each -/
theorem lcF_map {it : MI} {gg : MG} {ws : List Nat} {ds : List D} (F : D → D) (hi : it env h = .ok (.st ds) h) (hl : ds.length ≤ 9000000) (lo : ∀ d ∈ ds, D.lo h.length (F d) = true)
    (step : ∀ d ∈ ds, ∃ e1, gg d (wipeE env ws) = some e1 ∧ ∀ x, m e1 (h ++ [x]) = .ok (F d) (h ++ [x])) : mFz (mLc it gg mYes m ws) env h = .ok (.fl (ds.map F)) h := by
  rw [ap_mFz0, ap_mLc, hi]
  show fzR h (lcM _ _ _ _ _ _ _ _ _) = _
  rw [lcM_map F hl step, fzR_at get_last (Nat.le_refl _) (loL_of fun x hx => by obtain ⟨d, hd, rfl⟩ := List.mem_map.mp hx; exact lo d hd) okB_self]
  simp
theorem lcF_filter {it : MI} {gg : MG} {ws : List Nat} {ds : List D} (F : D → D) (p : D → Bool) (hi : it env h = .ok (.st ds) h) (hl : ds.length ≤ 9000000) (lo : ∀ d ∈ ds, p d = true → D.lo h.length (F d) = true)
    (step : ∀ d ∈ ds, ∃ e1, gg d (wipeE env ws) = some e1 ∧ (∀ x, t e1 (h ++ [x]) = .ok (p d) (h ++ [x])) ∧ ∀ x, p d = true → m e1 (h ++ [x]) = .ok (F d) (h ++ [x])) : mFz (mLc it gg t m ws) env h = .ok (.fl ((ds.filter p).map F)) h := by
  rw [ap_mFz0, ap_mLc, hi]
  show fzR h (lcM _ _ _ _ _ _ _ _ _) = _
  rw [lcM_filter F p hl step, fzR_at get_last (Nat.le_refl _) (loL_of fun x hx => by
    obtain ⟨d, hd, rfl⟩ := List.mem_map.mp hx
    exact lo d (List.mem_filter.mp hd).1 (List.mem_filter.mp hd).2) okB_self]
  simp
/-- .. whose steps draw: Pn b c says that the pen's cell c can draw b times -/
theorem lcF_pen {it : MI} {gg : MG} {ws : List Nat} {ds : List D} {z c0 : Cell} {g : IH} {Pn : Nat → Cell → Prop} {b K : Nat} (lop : ∀ b c k, Pn b c → Cell.lo k c = true) (Po : Nat → D → Prop) (hi : it env (z :: c0 :: g) = .ok (.st ds) (z :: c0 :: g)) (hl : ds.length ≤ 9000000)
    (hp : Pn (b + K * ds.length) c0) (lo : ∀ i y k, Po i y → D.lo k y = true)
    (step : ∀ i d, ds[i]? = some d → ∃ e1, gg d (wipeE env ws) = some e1 ∧ ∀ b c g, Pn (b + K) c → ∃ y c', m e1 (z :: c :: g) = .ok y (z :: c' :: g) ∧ Pn b c' ∧ Po i y) :
    ∃ ys c', mFz (mLc it gg mYes m ws) env (z :: c0 :: g) = .ok (.fl ys) (z :: c' :: g) ∧ ys.length = ds.length ∧ (∀ i y, ys[i]? = some y → Po i y) ∧ Pn b c' := by
  have main : ∃ ys c', lcM (.st ds) gg mYes m (z :: c0 :: g).length ((Src.st ds).many (z :: c0 :: g) + 1) 0 (wipeE env ws) ((z :: c0 :: g) ++ [Cell.lst []]) = .ok (.ref (z :: c0 :: g).length) (z :: c' :: (g ++ [Cell.lst ys])) ∧ ys.length = ds.length ∧ (∀ i y, ys[i]? = some y → Po i y) ∧ Pn b c' := by
    refine lcM_inv (P := fun i h' => ∃ ys c', h' = z :: c' :: (g ++ [Cell.lst ys]) ∧ ys.length = i ∧ (∀ j y, ys[j]? = some y → Po j y) ∧ Pn (b + K * (ds.length - i)) c') (Rs := fun r => ∃ ys c', r = .ok (.ref (z :: c0 :: g).length) (z :: c' :: (g ++ [Cell.lst ys])) ∧ ys.length = ds.length ∧ (∀ i y, ys[i]? = some y → Po i y) ∧ Pn b c') ?_ ?_ ?_
    · rintro i d h' hd ⟨ys, c', rfl, l1, p1, n1⟩
      have hi' := (List.getElem?_eq_some_iff.mp hd).1
      obtain ⟨e1, g1, st⟩ := step i d hd
      have e0 : ds.length - i = (ds.length - (i + 1)) + 1 := by omega
      rw [e0, Nat.mul_succ, ← Nat.add_assoc] at n1
      obtain ⟨y, c2, e2, n2, p2⟩ := st _ c' (g ++ [Cell.lst ys]) n1
      refine ⟨e1, g1, ?_⟩
      show ∃ y h3 acc, m e1 _ = .ok y h3 ∧ _
      refine ⟨y, _, ys, e2, by simp, by omega, ys ++ [y], c2, by simp, by simp [l1], fun j z hz => ?_, n2⟩
      by_cases hj : j < ys.length
      · rw [List.getElem?_append_left hj] at hz
        exact p1 j z hz
      · have hj2 : j = ys.length := by
          have := (List.getElem?_eq_some_iff.mp hz).1
          simp at this
          omega
        subst hj2
        rw [List.getElem?_append_right (Nat.le_refl _), Nat.sub_self] at hz
        simp at hz
        subst hz
        rw [l1]
        exact p2
    · rintro h' ⟨ys, c', rfl, l1, p1, n1⟩
      rw [Nat.sub_self, Nat.mul_zero, Nat.add_zero] at n1
      exact ⟨ys, c', rfl, l1, p1, n1⟩
    · exact ⟨[], c0, by simp, rfl, by simp, by simpa using hp⟩
  obtain ⟨ys, c', e, l1, p1, n1⟩ := main
  refine ⟨ys, c', ?_, l1, p1, n1⟩
  rw [ap_mFz0, ap_mLc, hi]
  show fzR _ (lcM _ _ _ _ _ _ _ _ _) = _
  rw [e, fzR_at (xs := ys) (by simp) (Nat.le_refl _) (loL_of fun x hx => by
    obtain ⟨j, hj⟩ := List.mem_iff_getElem?.mp hx
    exact lo j x _ (p1 j x hj)) (by simp [lop b c' _ n1])]
  simp
/-! with the lengths as premises: for simp (disch := ..) -/
theorem dAdd_str {a b : List Nat} (l : a.length + b.length ≤ 10000000) : dAdd (.str a) (.str b) h = .ok (.str (a ++ b)) h := by rw [dAdd_str_if, if_pos l]
theorem dIAdd_str {a b : List Nat} (l : a.length + b.length ≤ 10000000) : dIAdd (.str a) (.str b) h = .ok (.str (a ++ b)) h := by rw [dIAdd_str_if, if_pos l]
theorem bLen_str {s : List Nat} (l : s.length ≤ 10000000) : bLen [.str s] h = .ok (.int (s.length : Nat)) h := by rw [bLen_str_if, if_pos l]
theorem sliceD_str {s : List Nat} {lo hi : Option Int} (l : s.length ≤ 10000000) : sliceD (.str s) lo hi h = .ok (.str (cutN s lo hi)) h := by rw [sliceD_str_if, if_pos l]
theorem iSeq_str {env : EV} {m : ME} {s : List Nat} (e : m env h = .ok (.str s) h') (l : s.length ≤ 10000000) : iSeq m env h = .ok (.st (s.map fun c => .str [c])) h' := by
  rw [ap_iSeq, e]
  rw [bind_ok]
  dsimp only
  rw [if_pos l]
end
theorem get_app {h l : IH} {k : Nat} : (h ++ l)[h.length + k]? = l[k]? := by
  rw [List.getElem?_append_right (by omega)]
  congr 1
  omega
theorem get_app0 {h l : IH} : (h ++ l)[h.length]? = l[0]? := by
  rw [List.getElem?_append_right (by omega)]
  congr 1
  omega
theorem set_app {h l : IH} {k : Nat} {c : Cell} : (h ++ l).set (h.length + k) c = h ++ l.set k c := by
  rw [List.set_append, if_neg (by omega)]
  congr 2
  omega
theorem set_app0 {h l : IH} {c : Cell} : (h ++ l).set h.length c = h ++ l.set 0 c := by
  rw [List.set_append, if_neg (by omega)]
  congr 2
  omega
theorem get_old {h l : IH} {j : Nat} {c : Cell} (e : h[j]? = some c) : (h ++ l)[j]? = some c := by
  rw [List.getElem?_append_left (List.getElem?_eq_some_iff.mp e).1]
  exact e
@[simp] theorem dIs_bl {neg : Bool} {a b : Bool} {h : IH} : dIsN neg (.bl a) (.bl b) h = .ok (.bl (if neg then !decide (a = b) else decide (a = b))) h := rfl
@[simp] theorem dIs_non {neg : Bool} {h : IH} : dIsN neg .non .non h = .ok (.bl (!neg)) h := rfl
@[simp] theorem isT_non {T : String} {h : IH} : isT T h .non = kitB "NoneType" T := rfl
@[simp] theorem isT_bl {T : String} {b : Bool} {h : IH} : isT T h (.bl b) = kitB "bool" T := rfl
@[simp] theorem isT_int {T : String} {b : Int} {h : IH} : isT T h (.int b) = kitB "int" T := rfl
@[simp] theorem isT_str {T : String} {b : List Nat} {h : IH} : isT T h (.str b) = kitB "str" T := rfl
@[simp] theorem isT_tup {T : String} {b : List D} {h : IH} : isT T h (.tup b) = kitB "tuple" T := rfl
theorem isT_lst {T : String} {n : Nat} {xs : List D} {h : IH} (e : h[n]? = some (.lst xs)) : isT T h (.ref n) = kitB "list" T := by
  unfold isT
  dsimp only
  rw [e]
theorem isT_dk {T : String} {n : Nat} {xs : List (DKey × D)} {h : IH} (e : h[n]? = some (.dk xs)) : isT T h (.ref n) = kitB "dict" T := by
  unfold isT
  dsimp only
  rw [e]
@[simp] theorem kit_NoneType_bool : kitB "NoneType" "bool" = some false := by decide +kernel
@[simp] theorem kit_NoneType_int : kitB "NoneType" "int" = some false := by decide +kernel
@[simp] theorem kit_NoneType_str : kitB "NoneType" "str" = some false := by decide +kernel
@[simp] theorem kit_NoneType_tuple : kitB "NoneType" "tuple" = some false := by decide +kernel
@[simp] theorem kit_NoneType_list : kitB "NoneType" "list" = some false := by decide +kernel
@[simp] theorem kit_NoneType_dict : kitB "NoneType" "dict" = some false := by decide +kernel
@[simp] theorem kit_bool_bool : kitB "bool" "bool" = some true := by decide +kernel
@[simp] theorem kit_bool_int : kitB "bool" "int" = some true := by decide +kernel
@[simp] theorem kit_bool_str : kitB "bool" "str" = some false := by decide +kernel
@[simp] theorem kit_bool_tuple : kitB "bool" "tuple" = some false := by decide +kernel
@[simp] theorem kit_bool_list : kitB "bool" "list" = some false := by decide +kernel
@[simp] theorem kit_bool_dict : kitB "bool" "dict" = some false := by decide +kernel
@[simp] theorem kit_int_bool : kitB "int" "bool" = some false := by decide +kernel
@[simp] theorem kit_int_int : kitB "int" "int" = some true := by decide +kernel
@[simp] theorem kit_int_str : kitB "int" "str" = some false := by decide +kernel
@[simp] theorem kit_int_tuple : kitB "int" "tuple" = some false := by decide +kernel
@[simp] theorem kit_int_list : kitB "int" "list" = some false := by decide +kernel
@[simp] theorem kit_int_dict : kitB "int" "dict" = some false := by decide +kernel
@[simp] theorem kit_str_bool : kitB "str" "bool" = some false := by decide +kernel
@[simp] theorem kit_str_int : kitB "str" "int" = some false := by decide +kernel
@[simp] theorem kit_str_str : kitB "str" "str" = some true := by decide +kernel
@[simp] theorem kit_str_tuple : kitB "str" "tuple" = some false := by decide +kernel
@[simp] theorem kit_str_list : kitB "str" "list" = some false := by decide +kernel
@[simp] theorem kit_str_dict : kitB "str" "dict" = some false := by decide +kernel
@[simp] theorem kit_tuple_bool : kitB "tuple" "bool" = some false := by decide +kernel
@[simp] theorem kit_tuple_int : kitB "tuple" "int" = some false := by decide +kernel
@[simp] theorem kit_tuple_str : kitB "tuple" "str" = some false := by decide +kernel
@[simp] theorem kit_tuple_tuple : kitB "tuple" "tuple" = some true := by decide +kernel
@[simp] theorem kit_tuple_list : kitB "tuple" "list" = some false := by decide +kernel
@[simp] theorem kit_tuple_dict : kitB "tuple" "dict" = some false := by decide +kernel
@[simp] theorem kit_list_bool : kitB "list" "bool" = some false := by decide +kernel
@[simp] theorem kit_list_int : kitB "list" "int" = some false := by decide +kernel
@[simp] theorem kit_list_str : kitB "list" "str" = some false := by decide +kernel
@[simp] theorem kit_list_tuple : kitB "list" "tuple" = some false := by decide +kernel
@[simp] theorem kit_list_list : kitB "list" "list" = some true := by decide +kernel
@[simp] theorem kit_list_dict : kitB "list" "dict" = some false := by decide +kernel
@[simp] theorem kit_dict_bool : kitB "dict" "bool" = some false := by decide +kernel
@[simp] theorem kit_dict_int : kitB "dict" "int" = some false := by decide +kernel
@[simp] theorem kit_dict_str : kitB "dict" "str" = some false := by decide +kernel
@[simp] theorem kit_dict_tuple : kitB "dict" "tuple" = some false := by decide +kernel
@[simp] theorem kit_dict_list : kitB "dict" "list" = some false := by decide +kernel
@[simp] theorem kit_dict_dict : kitB "dict" "dict" = some true := by decide +kernel
/-! == of data without truths -/
def D.nb : Nat → D → Bool
  | 0, _ => false
  | k + 1, d => match d with
    | .non => true
    | .int _ => true
    | .str _ => true
    | .tup l => l.all (D.nb k)
    | .fl l => l.all (D.nb k)
    | _ => false
theorem nb_py {h : IH} : ∀ {k : Nat} {d : D}, d.nb k = true → ∃ p, D.py h k d = some p := by
  intro k
  induction k with
  | zero => intro d e; simp [D.nb] at e
  | succ k ih =>
    have all : ∀ l : List D, l.all (D.nb k) = true → ∃ ps, allM (D.py h k) l = some ps := by
      intro l
      induction l with
      | nil => exact fun _ => ⟨[], rfl⟩
      | cons d l il =>
        intro e
        simp only [List.all_cons, Bool.and_eq_true] at e
        obtain ⟨p, hp⟩ := ih e.1
        obtain ⟨ps, hps⟩ := il e.2
        exact ⟨p :: ps, by unfold allM; rw [hp, hps]⟩
    intro d e
    cases d with
    | non => exact ⟨_, rfl⟩
    | int i => exact ⟨_, rfl⟩
    | str s => exact ⟨_, rfl⟩
    | tup l =>
      obtain ⟨ps, hps⟩ := all l (by simpa [D.nb] using e)
      exact ⟨.tuple ps, by simp [D.py, hps]⟩
    | fl l =>
      obtain ⟨ps, hps⟩ := all l (by simpa [D.nb] using e)
      exact ⟨.list ps, by simp [D.py, hps]⟩
    | _ => simp [D.nb] at e
theorem nb_eqv {h : IH} : ∀ {k : Nat} {x y : D} {p q : PyData}, x.nb k = true → y.nb k = true → D.py h k x = some p → D.py h k y = some q → (PyData.eqv p q = true ↔ x = y) := by
  intro k
  induction k with
  | zero => intro x y p q e; simp [D.nb] at e
  | succ k ih =>
    have all : ∀ (l m : List D) (ps qs : List PyData), l.all (D.nb k) = true → m.all (D.nb k) = true → allM (D.py h k) l = some ps → allM (D.py h k) m = some qs → (PyData.eqvAll ps qs = true ↔ l = m) := by
      intro l
      induction l with
      | nil =>
        intro m ps qs _ _ e1 e2
        simp only [allM, Option.some.injEq] at e1
        subst e1
        cases m with
        | nil => simp only [allM, Option.some.injEq] at e2; subst e2; simp [PyData.eqvAll]
        | cons d m => obtain ⟨a, as, _, _, rfl⟩ := allM_cons e2; simp [PyData.eqvAll]
      | cons d l il =>
        intro m ps qs a1 a2 e1 e2
        obtain ⟨p, ps', b1, b2, rfl⟩ := allM_cons e1
        simp only [List.all_cons, Bool.and_eq_true] at a1
        cases m with
        | nil => simp only [allM, Option.some.injEq] at e2; subst e2; simp [PyData.eqvAll]
        | cons d' m =>
          obtain ⟨q, qs', c1, c2, rfl⟩ := allM_cons e2
          simp only [List.all_cons, Bool.and_eq_true] at a2
          simp [PyData.eqvAll, ih a1.1 a2.1 b1 c1, il m ps' qs' a1.2 a2.2 b2 c2]
    intro x y p q nx ny ex ey
    cases x with
    | non => cases y with
      | non => simp [D.py] at ex ey; subst ex ey; simp [PyData.eqv]
      | int j => simp [D.py] at ex ey; subst ex ey; simp [PyData.eqv]
      | str t => simp [D.py] at ex ey; subst ex ey; simp [PyData.eqv]
      | tup m => simp only [D.py, Option.map_eq_some_iff] at ex ey; obtain ⟨qs, _, rfl⟩ := ey; simp at ex; subst ex; simp [PyData.eqv]
      | fl m => simp only [D.py, Option.map_eq_some_iff] at ex ey; obtain ⟨qs, _, rfl⟩ := ey; simp at ex; subst ex; simp [PyData.eqv]
      | _ => simp [D.nb] at ny
    | int i => cases y with
      | non => simp [D.py] at ex ey; subst ex ey; simp [PyData.eqv]
      | int j => simp [D.py] at ex ey; subst ex ey; simp [PyData.eqv]
      | str t => simp [D.py] at ex ey; subst ex ey; simp [PyData.eqv]
      | tup m => simp only [D.py, Option.map_eq_some_iff] at ex ey; obtain ⟨qs, _, rfl⟩ := ey; simp at ex; subst ex; simp [PyData.eqv]
      | fl m => simp only [D.py, Option.map_eq_some_iff] at ex ey; obtain ⟨qs, _, rfl⟩ := ey; simp at ex; subst ex; simp [PyData.eqv]
      | _ => simp [D.nb] at ny
    | str s => cases y with
      | non => simp [D.py] at ex ey; subst ex ey; simp [PyData.eqv]
      | int j => simp [D.py] at ex ey; subst ex ey; simp [PyData.eqv]
      | str t =>
        simp [D.py] at ex ey; subst ex ey
        rw [show PyData.eqv (.str (strV s)) (.str (strV t)) = (strV s == strV t) by simp [PyData.eqv], strV_eq]
        simp
      | tup m => simp only [D.py, Option.map_eq_some_iff] at ex ey; obtain ⟨qs, _, rfl⟩ := ey; simp at ex; subst ex; simp [PyData.eqv]
      | fl m => simp only [D.py, Option.map_eq_some_iff] at ex ey; obtain ⟨qs, _, rfl⟩ := ey; simp at ex; subst ex; simp [PyData.eqv]
      | _ => simp [D.nb] at ny
    | tup l =>
      simp only [D.py, Option.map_eq_some_iff] at ex
      obtain ⟨ps, e1, rfl⟩ := ex
      cases y with
      | non => simp [D.py] at ey; subst ey; simp [PyData.eqv]
      | int j => simp [D.py] at ey; subst ey; simp [PyData.eqv]
      | str t => simp [D.py] at ey; subst ey; simp [PyData.eqv]
      | tup m =>
        simp only [D.py, Option.map_eq_some_iff] at ey; obtain ⟨qs, e2, rfl⟩ := ey
        have := all l m ps qs (by simpa [D.nb] using nx) (by simpa [D.nb] using ny) e1 e2
        simp [PyData.eqv, this]
      | fl m => simp only [D.py, Option.map_eq_some_iff] at ey; obtain ⟨qs, _, rfl⟩ := ey; simp [PyData.eqv]
      | _ => simp [D.nb] at ny
    | fl l =>
      simp only [D.py, Option.map_eq_some_iff] at ex
      obtain ⟨ps, e1, rfl⟩ := ex
      cases y with
      | non => simp [D.py] at ey; subst ey; simp [PyData.eqv]
      | int j => simp [D.py] at ey; subst ey; simp [PyData.eqv]
      | str t => simp [D.py] at ey; subst ey; simp [PyData.eqv]
      | fl m =>
        simp only [D.py, Option.map_eq_some_iff] at ey; obtain ⟨qs, e2, rfl⟩ := ey
        have := all l m ps qs (by simpa [D.nb] using nx) (by simpa [D.nb] using ny) e1 e2
        simp [PyData.eqv, this]
      | tup m => simp only [D.py, Option.map_eq_some_iff] at ey; obtain ⟨qs, _, rfl⟩ := ey; simp [PyData.eqv]
      | _ => simp [D.nb] at ny
    | _ => simp [D.nb] at nx
open Classical in
theorem dEq_nb {neg : Bool} {h : IH} {x y : D} (nx : x.nb 50 = true) (ny : y.nb 50 = true) : dEq neg x y h = .ok (.bl (if neg then !decide (x = y) else decide (x = y))) h := by
  obtain ⟨p, hp⟩ := nb_py (h := h) nx
  obtain ⟨q, hq⟩ := nb_py (h := h) ny
  unfold dEq
  rw [hp, hq]
  dsimp only
  have : PyData.eqv p q = decide (x = y) := by
    rw [Bool.eq_iff_iff, nb_eqv nx ny hp hq]
    simp
  rw [this]
/-- a comprehension that is locked at once: each item by what is known of it -/
theorem lcF_ex {env : EV} {h : IH} {m : ME} {it : MI} {gg : MG} {ws : List Nat} {ds : List D} (Po : Nat → D → Prop) (hi : it env h = .ok (.st ds) h) (hl : ds.length ≤ 9000000)
    (step : ∀ i d, ds[i]? = some d → ∃ e1 y, gg d (wipeE env ws) = some e1 ∧ (∀ x, m e1 (h ++ [x]) = .ok y (h ++ [x])) ∧ D.lo h.length y = true ∧ Po i y) : ∃ ys, mFz (mLc it gg mYes m ws) env h = .ok (.fl ys) h ∧ ys.length = ds.length ∧ ∀ i y, ys[i]? = some y → Po i y := by
  let F : D → D := fun d => match gg d (wipeE env ws) with
    | some e1 => match m e1 (h ++ [Cell.lst []]) with
      | .ok y _ => y
      | _ => .non
    | none => .non
  have eF : ∀ i d, ds[i]? = some d → ∃ e1, gg d (wipeE env ws) = some e1 ∧ (∀ x, m e1 (h ++ [x]) = .ok (F d) (h ++ [x])) ∧ D.lo h.length (F d) = true ∧ Po i (F d) := fun i d hd => by
    obtain ⟨e1, y, g1, g2, g3, g4⟩ := step i d hd
    have : F d = y := by
      show (match gg d (wipeE env ws) with
        | some e1 => match m e1 (h ++ [Cell.lst []]) with
          | .ok y _ => y
          | _ => D.non
        | none => D.non) = y
      rw [g1]
      dsimp only
      rw [g2]
    rw [this]
    exact ⟨e1, g1, g2, g3, g4⟩
  refine ⟨ds.map F, lcF_map F hi hl (fun d hd => ?_) (fun d hd => ?_), by simp, fun i y hy => ?_⟩
  · obtain ⟨i, hi⟩ := List.mem_iff_getElem?.mp hd
    obtain ⟨_, _, _, g3, _⟩ := eF i d hi
    exact g3
  · obtain ⟨i, hi⟩ := List.mem_iff_getElem?.mp hd
    obtain ⟨e1, g1, g2, _⟩ := eF i d hi
    exact ⟨e1, g1, g2⟩
  · rw [List.getElem?_map] at hy
    cases q : ds[i]? with
    | none => rw [q] at hy; cases hy
    | some d =>
      rw [q] at hy
      cases hy
      obtain ⟨_, _, _, _, g4⟩ := eF i d q
      exact g4
/-- items of a list, each by what is known of it -/
theorem list_of {A B : Type} {f : A → B} {Po : Nat → A → Prop} : ∀ {ys : List B}, (∀ i y, ys[i]? = some y → ∃ a, y = f a ∧ Po i a) → ∃ as : List A, ys = as.map f ∧ ∀ i a, as[i]? = some a → Po i a
  | [], _ => ⟨[], rfl, by simp⟩
  | y :: ys, h => by
    obtain ⟨a, rfl, pa⟩ := h 0 y rfl
    obtain ⟨as, rfl, ps⟩ := list_of (Po := fun i => Po (i + 1)) (ys := ys) fun i z hz => h (i + 1) z (by simpa using hz)
    exact ⟨a :: as, rfl, fun i b hb => by
      cases i with
      | zero => simp at hb; subst hb; exact pa
      | succ i => exact ps i b (by simpa using hb)⟩
/-- of a number's item -/
def natP (p : Nat → Bool) : D → Bool
  | .int k => p k.toNat
  | _ => false
def natF (f : Nat → D) : D → D
  | .int k => f k.toNat
  | d => d
@[simp] theorem natP_int {p : Nat → Bool} {x : Nat} : natP p (.int (x : Nat)) = p x := rfl
@[simp] theorem natF_int {f : Nat → D} {x : Nat} : natF f (.int (x : Nat)) = f x := rfl
@[simp] theorem natP_nD {p : Nat → Bool} {x : Nat} : natP p (nD x) = p x := rfl
@[simp] theorem natF_nD {f : Nat → D} {x : Nat} : natF f (nD x) = f x := rfl
theorem natP_filter (ss : List Nat) (p : Nat → Bool) : (ss.map nD).filter (natP p) = (ss.filter p).map nD := by
  rw [List.filter_map]
  rfl
theorem natF_map (ss : List Nat) (f : Nat → D) : (ss.map nD).map (natF f) = ss.map f := by
  rw [List.map_map]
  rfl
/-- of a sign's item -/
def sgP (p : Nat → Bool) : D → Bool
  | .str [k] => p k
  | _ => false
def sgF (f : Nat → D) : D → D
  | .str [k] => f k
  | d => d
@[simp] theorem sgP_str {p : Nat → Bool} {x : Nat} : sgP p (.str [x]) = p x := rfl
@[simp] theorem sgF_str {f : Nat → D} {x : Nat} : sgF f (.str [x]) = f x := rfl
theorem sgP_filter (ss : List Nat) (p : Nat → Bool) : (sgD ss).filter (sgP p) = sgD (ss.filter p) := by
  unfold sgD
  rw [List.filter_map]
  rfl
theorem sgF_map (ss : List Nat) (f : Nat → D) : (sgD ss).map (sgF f) = ss.map f := by
  unfold sgD
  rw [List.map_map]
  rfl
theorem intsFrom_nD (n : Nat) : intsFrom 0 n = (List.range n).map nD := by simp [intsFrom, nD]
end NR

set_option Elab.async false
set_option linter.all false
set_option maxRecDepth 100000
set_option maxHeartbeats 4000000
/-! What is equal: plain trees up to the truths' numbers. -/
namespace NR
open PySem PySem.Spec PyProof.Rows L2
mutual
def D.nm : D → D
  | .bl b => .int (if b then 1 else 0)
  | .tup l => .tup (D.nmL l)
  | .fl l => .fl (D.nmL l)
  | d => d
def D.nmL : List D → List D
  | [] => []
  | d :: l => D.nm d :: D.nmL l
end
theorem nmL_map : ∀ l : List D, D.nmL l = l.map D.nm
  | [] => rfl
  | d :: l => by simp [D.nmL, nmL_map l]
@[simp] theorem nm_non : D.nm .non = .non := rfl
@[simp] theorem nm_int {i : Int} : D.nm (.int i) = .int i := rfl
@[simp] theorem nm_str {i : List Nat} : D.nm (.str i) = .str i := rfl
@[simp] theorem nm_bl {b : Bool} : D.nm (.bl b) = .int (if b then 1 else 0) := rfl
@[simp] theorem nm_tup {l : List D} : D.nm (.tup l) = .tup (l.map D.nm) := by rw [← nmL_map]; rfl
@[simp] theorem nm_fl {l : List D} : D.nm (.fl l) = .fl (l.map D.nm) := by rw [← nmL_map]; rfl
/-- a plain tree -/
def D.pl : Nat → D → Bool
  | 0, _ => false
  | k + 1, d => match d with
    | .non => true
    | .bl _ => true
    | .int _ => true
    | .str _ => true
    | .tup l => l.all (D.pl k)
    | .fl l => l.all (D.pl k)
    | _ => false
theorem pl_mono : ∀ {k : Nat} {d : D}, d.pl k = true → d.pl (k + 1) = true := by
  intro k
  induction k with
  | zero => intro d e; simp [D.pl] at e
  | succ k ih =>
    intro d e
    cases d with
    | tup l =>
      simp only [D.pl, List.all_eq_true] at e ⊢
      exact fun x hx => ih (e x hx)
    | fl l =>
      simp only [D.pl, List.all_eq_true] at e ⊢
      exact fun x hx => ih (e x hx)
    | non => rfl
    | bl b => rfl
    | int i => rfl
    | str s => rfl
    | _ => simp [D.pl] at e
theorem pl_le {j k : Nat} (l : j ≤ k) {d : D} (h : d.pl j = true) : d.pl k = true := by
  induction l with
  | refl => exact h
  | step _ ih => exact pl_mono ih
theorem allM_all {A : Type} {f : D → Option A} : ∀ {l : List D}, (∀ d ∈ l, ∃ a, f d = some a) → ∃ as, allM f l = some as
  | [], _ => ⟨[], rfl⟩
  | d :: l, h => by
    obtain ⟨a, ea⟩ := h d List.mem_cons_self
    obtain ⟨as, eas⟩ := allM_all fun x hx => h x (List.mem_cons_of_mem _ hx)
    exact ⟨a :: as, by unfold allM; rw [ea, eas]⟩
theorem pl_py {h : IH} : ∀ {k : Nat} {d : D}, d.pl k = true → ∃ p, D.py h k d = some p := by
  intro k
  induction k with
  | zero => intro d e; simp [D.pl] at e
  | succ k ih =>
    intro d e
    cases d with
    | non => exact ⟨_, rfl⟩
    | bl b => exact ⟨_, rfl⟩
    | int i => exact ⟨_, rfl⟩
    | str s => exact ⟨_, rfl⟩
    | tup l =>
      simp only [D.pl, List.all_eq_true] at e
      obtain ⟨ps, hps⟩ := allM_all fun d hd => ih (e d hd)
      exact ⟨.tuple ps, by simp [D.py, hps]⟩
    | fl l =>
      simp only [D.pl, List.all_eq_true] at e
      obtain ⟨ps, hps⟩ := allM_all fun d hd => ih (e d hd)
      exact ⟨.list ps, by simp [D.py, hps]⟩
    | _ => simp [D.pl] at e
theorem pl_eqv {h : IH} : ∀ {k k' : Nat} {x y : D} {p q : PyData}, x.pl k = true → y.pl k' = true → D.py h k x = some p → D.py h k' y = some q → (PyData.eqv p q = true ↔ x.nm = y.nm) := by
  intro k
  induction k with
  | zero => intro k' x y p q e; simp [D.pl] at e
  | succ k ih =>
    intro k'
    cases k' with
    | zero => intro x y p q _ e; simp [D.pl] at e
    | succ k' =>
    have all : ∀ (l m : List D) (ps qs : List PyData), l.all (D.pl k) = true → m.all (D.pl k') = true → allM (D.py h k) l = some ps → allM (D.py h k') m = some qs → (PyData.eqvAll ps qs = true ↔ l.map D.nm = m.map D.nm) := by
      intro l
      induction l with
      | nil =>
        intro m ps qs _ _ e1 e2
        simp only [allM, Option.some.injEq] at e1
        subst e1
        cases m with
        | nil => simp only [allM, Option.some.injEq] at e2; subst e2; simp [PyData.eqvAll]
        | cons d m => obtain ⟨a, as, _, _, rfl⟩ := allM_cons e2; simp [PyData.eqvAll]
      | cons d l il =>
        intro m ps qs a1 a2 e1 e2
        obtain ⟨p, ps', b1, b2, rfl⟩ := allM_cons e1
        simp only [List.all_cons, Bool.and_eq_true] at a1
        cases m with
        | nil => simp only [allM, Option.some.injEq] at e2; subst e2; simp [PyData.eqvAll]
        | cons d' m =>
          obtain ⟨q, qs', c1, c2, rfl⟩ := allM_cons e2
          simp only [List.all_cons, Bool.and_eq_true] at a2
          simp [PyData.eqvAll, ih a1.1 a2.1 b1 c1, il m ps' qs' a1.2 a2.2 b2 c2]
    intro x y p q nx ny ex ey
    have bi : ∀ (b : Bool) (j : Int), ((if b then (1 : Int) else 0) == j) = decide ((if b then (1 : Int) else 0) = j) := fun b j => by cases b <;> rfl
    cases x with
    | non => cases y with
      | non => simp [D.py] at ex ey; subst ex ey; simp [PyData.eqv]
      | bl j => simp [D.py] at ex ey; subst ex ey; simp [PyData.eqv]
      | int j => simp [D.py] at ex ey; subst ex ey; simp [PyData.eqv]
      | str t => simp [D.py] at ex ey; subst ex ey; simp [PyData.eqv]
      | tup m => simp only [D.py, Option.map_eq_some_iff] at ex ey; obtain ⟨qs, _, rfl⟩ := ey; simp at ex; subst ex; simp [PyData.eqv]
      | fl m => simp only [D.py, Option.map_eq_some_iff] at ex ey; obtain ⟨qs, _, rfl⟩ := ey; simp at ex; subst ex; simp [PyData.eqv]
      | _ => simp [D.pl] at ny
    | bl i => cases y with
      | non => simp [D.py] at ex ey; subst ex ey; simp [PyData.eqv]
      | bl j => simp [D.py] at ex ey; subst ex ey; cases i <;> cases j <;> simp [PyData.eqv]
      | int j => simp [D.py] at ex ey; subst ex ey; simp [PyData.eqv]
      | str t => simp [D.py] at ex ey; subst ex ey; simp [PyData.eqv]
      | tup m => simp only [D.py, Option.map_eq_some_iff] at ex ey; obtain ⟨qs, _, rfl⟩ := ey; simp at ex; subst ex; simp [PyData.eqv]
      | fl m => simp only [D.py, Option.map_eq_some_iff] at ex ey; obtain ⟨qs, _, rfl⟩ := ey; simp at ex; subst ex; simp [PyData.eqv]
      | _ => simp [D.pl] at ny
    | int i => cases y with
      | non => simp [D.py] at ex ey; subst ex ey; simp [PyData.eqv]
      | bl j => simp [D.py] at ex ey; subst ex ey; simp [PyData.eqv]
      | int j => simp [D.py] at ex ey; subst ex ey; simp [PyData.eqv]
      | str t => simp [D.py] at ex ey; subst ex ey; simp [PyData.eqv]
      | tup m => simp only [D.py, Option.map_eq_some_iff] at ex ey; obtain ⟨qs, _, rfl⟩ := ey; simp at ex; subst ex; simp [PyData.eqv]
      | fl m => simp only [D.py, Option.map_eq_some_iff] at ex ey; obtain ⟨qs, _, rfl⟩ := ey; simp at ex; subst ex; simp [PyData.eqv]
      | _ => simp [D.pl] at ny
    | str s => cases y with
      | non => simp [D.py] at ex ey; subst ex ey; simp [PyData.eqv]
      | bl j => simp [D.py] at ex ey; subst ex ey; simp [PyData.eqv]
      | int j => simp [D.py] at ex ey; subst ex ey; simp [PyData.eqv]
      | str t =>
        simp [D.py] at ex ey; subst ex ey
        rw [show PyData.eqv (.str (strV s)) (.str (strV t)) = (strV s == strV t) by simp [PyData.eqv], strV_eq]
        simp
      | tup m => simp only [D.py, Option.map_eq_some_iff] at ex ey; obtain ⟨qs, _, rfl⟩ := ey; simp at ex; subst ex; simp [PyData.eqv]
      | fl m => simp only [D.py, Option.map_eq_some_iff] at ex ey; obtain ⟨qs, _, rfl⟩ := ey; simp at ex; subst ex; simp [PyData.eqv]
      | _ => simp [D.pl] at ny
    | tup l =>
      simp only [D.py, Option.map_eq_some_iff] at ex
      obtain ⟨ps, e1, rfl⟩ := ex
      cases y with
      | non => simp [D.py] at ey; subst ey; simp [PyData.eqv]
      | bl j => simp [D.py] at ey; subst ey; simp [PyData.eqv]
      | int j => simp [D.py] at ey; subst ey; simp [PyData.eqv]
      | str t => simp [D.py] at ey; subst ey; simp [PyData.eqv]
      | tup m =>
        simp only [D.py, Option.map_eq_some_iff] at ey; obtain ⟨qs, e2, rfl⟩ := ey
        have := all l m ps qs (by simpa [D.pl] using nx) (by simpa [D.pl] using ny) e1 e2
        simp [PyData.eqv, this]
      | fl m => simp only [D.py, Option.map_eq_some_iff] at ey; obtain ⟨qs, _, rfl⟩ := ey; simp [PyData.eqv]
      | _ => simp [D.pl] at ny
    | fl l =>
      simp only [D.py, Option.map_eq_some_iff] at ex
      obtain ⟨ps, e1, rfl⟩ := ex
      cases y with
      | non => simp [D.py] at ey; subst ey; simp [PyData.eqv]
      | bl j => simp [D.py] at ey; subst ey; simp [PyData.eqv]
      | int j => simp [D.py] at ey; subst ey; simp [PyData.eqv]
      | str t => simp [D.py] at ey; subst ey; simp [PyData.eqv]
      | fl m =>
        simp only [D.py, Option.map_eq_some_iff] at ey; obtain ⟨qs, e2, rfl⟩ := ey
        have := all l m ps qs (by simpa [D.pl] using nx) (by simpa [D.pl] using ny) e1 e2
        simp [PyData.eqv, this]
      | tup m => simp only [D.py, Option.map_eq_some_iff] at ey; obtain ⟨qs, _, rfl⟩ := ey; simp [PyData.eqv]
      | _ => simp [D.pl] at ny
    | _ => simp [D.pl] at nx
open Classical in
theorem dEq_pl {neg : Bool} {h : IH} {x y : D} (nx : x.pl 50 = true) (ny : y.pl 50 = true) : dEq neg x y h = .ok (.bl (if neg then !decide (x.nm = y.nm) else decide (x.nm = y.nm))) h := by
  obtain ⟨p, hp⟩ := pl_py (h := h) nx
  obtain ⟨q, hq⟩ := pl_py (h := h) ny
  unfold dEq
  rw [hp, hq]
  dsimp only
  have : PyData.eqv p q = decide (x.nm = y.nm) := by
    rw [Bool.eq_iff_iff, pl_eqv nx ny hp hq]
    simp
  rw [this]
/-- a list in the heap is told as its items -/
theorem py_ref {h : IH} {n : Nat} {xs : List D} (e : h[n]? = some (.lst xs)) {k : Nat} : D.py h k (.ref n) = D.py h k (.fl xs) := by
  cases k with
  | zero => rfl
  | succ k =>
    show (match h[n]? with | some (.lst xs) => _ | some (.frz xs) => _ | _ => _) = _
    rw [e]
    rfl
theorem dEq_ref {neg : Bool} {h : IH} {n : Nat} {xs : List D} {y : D} (e : h[n]? = some (.lst xs)) : dEq neg (.ref n) y h = dEq neg (.fl xs) y h := by
  unfold dEq
  rw [py_ref e]
theorem dEq_ref2 {neg : Bool} {h : IH} {n : Nat} {xs : List D} {x : D} (e : h[n]? = some (.lst xs)) : dEq neg x (.ref n) h = dEq neg x (.fl xs) h := by
  unfold dEq
  rw [py_ref e]
open Classical in
theorem dIn_pl {neg : Bool} {h : IH} {x y : D} {ys : List D} (e : seqOf h y = some ys) (nx : x.pl 50 = true) (ny : ∀ d ∈ ys, D.pl 49 d = true) : dIn neg x y h = .ok (.bl (if neg then !decide (x.nm ∈ ys.map D.nm) else decide (x.nm ∈ ys.map D.nm))) h := by
  obtain ⟨p, hp⟩ := pl_py (h := h) nx
  have main : ∀ {ys : List D}, (∀ d ∈ ys, D.pl 49 d = true) → ∃ qs, allM (D.py h 49) ys = some qs ∧ (qs.any fun z => PyData.eqv z p) = decide (x.nm ∈ ys.map D.nm) := by
    intro ys
    induction ys with
    | nil => exact fun _ => ⟨[], rfl, by simp⟩
    | cons d ys ih =>
      intro hy
      obtain ⟨qs, e1, e2⟩ := ih fun z hz => hy z (List.mem_cons_of_mem _ hz)
      obtain ⟨q, hq⟩ := pl_py (h := h) (hy d List.mem_cons_self)
      refine ⟨q :: qs, by unfold allM; rw [hq, e1], ?_⟩
      rw [List.any_cons, e2, Bool.eq_iff_iff]
      simp [pl_eqv (hy d List.mem_cons_self) nx hq hp]
      simp [eq_comm]
  obtain ⟨qs, e1, e2⟩ := main ny
  have e3 : (seqOf h y).bind (allM (D.py h 49)) = some qs := by rw [e]; exact e1
  have : dIn neg x y h = match D.py h 50 x, (seqOf h y).bind (allM (D.py h 49)) with
    | some a, some bs => .ok (.bl (if neg then !(bs.any fun z => PyData.eqv z a) else bs.any fun z => PyData.eqv z a)) h
    | _, _ => .no := by
    unfold dIn
    split
    · simp [seqOf] at e
    · rfl
  rw [this, hp, e3]
  dsimp only
  rw [e2]
theorem bTupleX_ref {h : IH} {n : Nat} {xs : List D} (e : h[n]? = some (.lst xs)) : bTupleX [.ref n] h = .ok (.tup xs) h := by
  show bTuple [.ref n] h = _
  unfold bTuple
  dsimp only
  rw [lstOf_ref e]
@[simp] theorem pl_non {k : Nat} : D.pl (k + 1) .non = true := rfl
@[simp] theorem pl_int {k : Nat} {i : Int} : D.pl (k + 1) (.int i) = true := rfl
@[simp] theorem pl_bl {k : Nat} {i : Bool} : D.pl (k + 1) (.bl i) = true := rfl
@[simp] theorem pl_str {k : Nat} {i : List Nat} : D.pl (k + 1) (.str i) = true := rfl
theorem pl_fl {k : Nat} {l : List D} : D.pl (k + 1) (.fl l) = l.all (D.pl k) := rfl
theorem pl_tup {k : Nat} {l : List D} : D.pl (k + 1) (.tup l) = l.all (D.pl k) := rfl
theorem pl_all {k : Nat} {l : List D} (h : ∀ d ∈ l, D.pl k d = true) : l.all (D.pl k) = true := List.all_eq_true.mpr h
theorem pl_ints {k : Nat} {l : List Int} : (l.map D.int).all (D.pl (k + 1)) = true := pl_all fun d hd => by
  obtain ⟨x, _, rfl⟩ := List.mem_map.mp hd
  rfl
theorem dEq_self {d : D} {h : IH} {neg : Bool} (p : d.pl 50 = true) : dEq neg d d h = .ok (.bl (!neg)) h := by
  rw [dEq_pl p p]
  cases neg <;> simp
@[simp] theorem ap_mFz_dict0 {env : EV} {h : IH} : mFz (mDict []) env h = .ok (.fd [] []) h := by
  have e : mDict [] env h = .ok (.ref h.length) (h ++ [.dk []]) := by
    simp [mDict, mPr, R.bind, keyPs, dkAt]
  rw [ap_mFz0, e]
  unfold fzR
  simp
/-! what is known of a value -/
def D.kn : D → Bool
  | .ref _ => false
  | .exc _ => false
  | _ => true
def D.isI : D → Bool
  | .int _ => true
  | _ => false
def D.kn2 : D → Bool
  | .tup l => l.all D.kn
  | d => d.kn
theorem isT_int_kn {d : D} {h : IH} (k : d.kn = true) : isT "int" h d = some (d.isI || (match d with | .bl _ => true | _ => false)) := by
  cases d with
  | ref n => cases k
  | exc n => cases k
  | _ => simp [D.isI]
theorem isT_bool_kn {d : D} {h : IH} (k : d.kn = true) : isT "bool" h d = some (match d with | .bl _ => true | _ => false) := by
  cases d with
  | ref n => cases k
  | exc n => cases k
  | _ => simp
theorem isT_tuple_kn {d : D} {h : IH} (k : d.kn = true) : isT "tuple" h d = some (match d with | .tup _ => true | _ => false) := by
  cases d with
  | ref n => cases k
  | exc n => cases k
  | _ => simp
theorem sIx_neg {n d k : Nat} (h0 : 1 ≤ k) (h1 : k ≤ n) : HT.sIx n d (some (-(k : Int))) = n - k := by
  show (if -(k : Int) < 0 then (-(k : Int) + (n : Int)).toNat else min (-(k : Int)).toNat n) = _
  rw [if_pos (by omega)]
  omega
theorem cutD_neg {xs : List D} {k : Nat} (h0 : 1 ≤ k) (h1 : k ≤ xs.length) : cutD xs none (some (-(k : Int))) = xs.take (xs.length - k) := by
  show (xs.drop (HT.sIx xs.length 0 none)).take (HT.sIx xs.length xs.length (some (-(k : Int))) - HT.sIx xs.length 0 none) = _
  rw [sIx_neg h0 h1]
  simp [HT.sIx]
theorem cutN_neg {xs : List Nat} {k : Nat} (h0 : 1 ≤ k) (h1 : k ≤ xs.length) : cutN xs none (some (-(k : Int))) = xs.take (xs.length - k) := by
  show (xs.drop (HT.sIx xs.length 0 none)).take (HT.sIx xs.length xs.length (some (-(k : Int))) - HT.sIx xs.length 0 none) = _
  rw [sIx_neg h0 h1]
  simp [HT.sIx]
end NR

set_option Elab.async false
set_option linter.all false
set_option maxRecDepth 100000
set_option maxHeartbeats 4000000
namespace NR
/-! ### shapes and their places, plainly -/
inductive Sh where
  | one (s : List Nat)
  | row (l : List Sh)
  | eit (l : List Sh)
  | many (s : Sh)
  | tim (s : Sh) (lo hi : Nat)
mutual
def Sh.wt : Sh → Nat
  | .one _ => 1
  | .row l => Sh.wts l
  | .eit l => Sh.wts l
  | .many s => s.wt
  | .tim s _ hi => hi * s.wt
def Sh.wts : List Sh → Nat
  | [] => 0
  | s :: l => s.wt + Sh.wts l
end
mutual
def Sh.em : Sh → Bool
  | .one _ => false
  | .row l => Sh.ems l
  | .eit l => Sh.emo l
  | .many _ => true
  | .tim s lo _ => decide (lo = 0) || s.em
def Sh.ems : List Sh → Bool
  | [] => true
  | s :: l => s.em && Sh.ems l
def Sh.emo : List Sh → Bool
  | [] => false
  | s :: l => s.em || Sh.emo l
end
def inR (a w p : Nat) : Bool := decide (a < p ∧ p ≤ a + w)
/-- k times the same part -/
def bgK (f : Nat → Bool) (e : Bool) (w : Nat) : Nat → Nat → Bool
  | 0, _ => false
  | k + 1, a => f a || (e && bgK f e w k (a + w))
mutual
/-- can a course begin there -/
def Sh.bg (p : Nat) : Sh → Nat → Bool
  | .one _, a => inR a 1 p
  | .row l, a => Sh.bgs p l a
  | .eit l, a => Sh.bgo p l a
  | .many s, a => s.bg p a
  | .tim s _ hi, a => bgK (fun b => s.bg p b) s.em s.wt hi a
def Sh.bgs (p : Nat) : List Sh → Nat → Bool
  | [], _ => false
  | s :: l, a => s.bg p a || (s.em && Sh.bgs p l (a + s.wt))
def Sh.bgo (p : Nat) : List Sh → Nat → Bool
  | [], _ => false
  | s :: l, a => s.bg p a || Sh.bgo p l (a + s.wt)
end
/-- the last place so far: going on over parts -/
def enK (f : Nat → Bool) (e : Bool) (w : Nat) : Nat → Nat → Bool → Bool
  | 0, _, b => b
  | k + 1, a, b => enK f e w k (a + w) (b && e || f a)
/-- a last one of k parts or more, from the i-th part on -/
def enT (f : Nat → Bool) (e : Bool) (w lo : Nat) : Nat → Nat → Nat → Bool
  | 0, _, _ => false
  | k + 1, i, a => (f a && (decide (lo ≤ i) || e)) || enT f e w lo k (i + 1) (a + w)
mutual
/-- can a course end there -/
def Sh.en (p : Nat) : Sh → Nat → Bool
  | .one _, a => inR a 1 p
  | .row l, a => Sh.ens p l a false
  | .eit l, a => Sh.eno p l a
  | .many s, a => s.en p a
  | .tim s lo hi, a => enT (fun b => s.en p b) s.em s.wt lo hi 1 a
def Sh.ens (p : Nat) : List Sh → Nat → Bool → Bool
  | [], _, b => b
  | s :: l, a, b => Sh.ens p l (a + s.wt) (b && s.em || s.en p a)
def Sh.eno (p : Nat) : List Sh → Nat → Bool
  | [], _ => false
  | s :: l, a => s.en p a || Sh.eno p l (a + s.wt)
end
/-- q straight behind p, over k times the same part -/
def foK (f g h : Nat → Bool) (e : Bool) (w : Nat) : Nat → Nat → Bool → Bool
  | 0, _, _ => false
  | k + 1, a, b => f a || (b && h a) || foK f g h e w k (a + w) (b && e || g a)
mutual
/-- does q stand straight behind p -/
def Sh.fo (p q : Nat) : Sh → Nat → Bool
  | .one _, _ => false
  | .row l, a => Sh.fos p q l a false
  | .eit l, a => Sh.foo p q l a
  | .many s, a => s.fo p q a || (s.en p a && s.bg q a)
  | .tim s _ hi, a => foK (fun b => s.fo p q b) (fun b => s.en p b) (fun b => s.bg q b) s.em s.wt hi a false
def Sh.fos (p q : Nat) : List Sh → Nat → Bool → Bool
  | [], _, _ => false
  | s :: l, a, b => s.fo p q a || (b && s.bg q a) || Sh.fos p q l (a + s.wt) (b && s.em || s.en p a)
def Sh.foo (p q : Nat) : List Sh → Nat → Bool
  | [], _ => false
  | s :: l, a => s.fo p q a || Sh.foo p q l (a + s.wt)
end
mutual
/-- the signs of the places -/
def Sh.mk : Sh → List (List Nat)
  | .one s => [s]
  | .row l => Sh.mks l
  | .eit l => Sh.mks l
  | .many s => s.mk
  | .tim s _ hi => (List.replicate hi s.mk).flatten
def Sh.mks : List Sh → List (List Nat)
  | [] => []
  | s :: l => s.mk ++ Sh.mks l
end
/-! where they lie -/
theorem inR_iff {a w p : Nat} : inR a w p = true ↔ a < p ∧ p ≤ a + w := by
  unfold inR
  simp
theorem bgK_in {f : Nat → Bool} {e : Bool} {w p : Nat} (h : ∀ a, f a = true → a < p ∧ p ≤ a + w) : ∀ {k a : Nat}, bgK f e w k a = true → a < p ∧ p ≤ a + k * w
  | 0, a, z => by cases z
  | k + 1, a, z => by
    unfold bgK at z
    rw [Nat.add_mul]
    rcases Bool.or_eq_true _ _ |>.mp z with z | z
    · have := h a z
      omega
    · rw [Bool.and_eq_true] at z
      have := bgK_in h z.2
      omega
theorem enT_in {f : Nat → Bool} {e : Bool} {w lo p : Nat} (h : ∀ a, f a = true → a < p ∧ p ≤ a + w) : ∀ {k i a : Nat}, enT f e w lo k i a = true → a < p ∧ p ≤ a + k * w
  | 0, i, a, z => by cases z
  | k + 1, i, a, z => by
    unfold enT at z
    rw [Nat.add_mul]
    rcases Bool.or_eq_true _ _ |>.mp z with z | z
    · rw [Bool.and_eq_true] at z
      have := h a z.1
      omega
    · have := enT_in h z
      omega
mutual
theorem Sh.bg_in {p : Nat} : ∀ {s : Sh} {a : Nat}, s.bg p a = true → a < p ∧ p ≤ a + s.wt
  | .one _, a, z => inR_iff.mp z
  | .row l, a, z => Sh.bgs_in z
  | .eit l, a, z => Sh.bgo_in z
  | .many s, a, z => Sh.bg_in (s := s) z
  | .tim s lo hi, a, z => bgK_in (fun b => Sh.bg_in (s := s)) z
theorem Sh.bgs_in {p : Nat} : ∀ {l : List Sh} {a : Nat}, Sh.bgs p l a = true → a < p ∧ p ≤ a + Sh.wts l
  | [], a, z => by cases z
  | s :: l, a, z => by
    unfold Sh.bgs at z
    unfold Sh.wts
    rcases Bool.or_eq_true _ _ |>.mp z with z | z
    · have := Sh.bg_in z
      omega
    · rw [Bool.and_eq_true] at z
      have := Sh.bgs_in z.2
      omega
theorem Sh.bgo_in {p : Nat} : ∀ {l : List Sh} {a : Nat}, Sh.bgo p l a = true → a < p ∧ p ≤ a + Sh.wts l
  | [], a, z => by cases z
  | s :: l, a, z => by
    unfold Sh.bgo at z
    unfold Sh.wts
    rcases Bool.or_eq_true _ _ |>.mp z with z | z
    · have := Sh.bg_in z
      omega
    · have := Sh.bgo_in z
      omega
end
mutual
theorem Sh.en_in {p : Nat} : ∀ {s : Sh} {a : Nat}, s.en p a = true → a < p ∧ p ≤ a + s.wt
  | .one _, a, z => inR_iff.mp z
  | .row l, a, z => by
    rcases Sh.ens_in z with z | z
    · cases z
    · exact z
  | .eit l, a, z => Sh.eno_in z
  | .many s, a, z => Sh.en_in (s := s) z
  | .tim s lo hi, a, z => enT_in (fun b => Sh.en_in (s := s)) z
theorem Sh.ens_in {p : Nat} : ∀ {l : List Sh} {a : Nat} {b : Bool}, Sh.ens p l a b = true → b = true ∨ (a < p ∧ p ≤ a + Sh.wts l)
  | [], a, b, z => .inl z
  | s :: l, a, b, z => by
    unfold Sh.ens at z
    unfold Sh.wts
    rcases Sh.ens_in z with z | z
    · rcases Bool.or_eq_true _ _ |>.mp z with z | z
      · rw [Bool.and_eq_true] at z
        exact .inl z.1
      · have := Sh.en_in z
        exact .inr (by omega)
    · exact .inr (by omega)
theorem Sh.eno_in {p : Nat} : ∀ {l : List Sh} {a : Nat}, Sh.eno p l a = true → a < p ∧ p ≤ a + Sh.wts l
  | [], a, z => by cases z
  | s :: l, a, z => by
    unfold Sh.eno at z
    unfold Sh.wts
    rcases Bool.or_eq_true _ _ |>.mp z with z | z
    · have := Sh.en_in z
      omega
    · have := Sh.eno_in z
      omega
end
theorem foK_in {f g h : Nat → Bool} {e : Bool} {w p q : Nat} (hf : ∀ a, f a = true → (a < p ∧ p ≤ a + w) ∧ (a < q ∧ q ≤ a + w)) (hg : ∀ a, g a = true → a < p ∧ p ≤ a + w) (hh : ∀ a, h a = true → a < q ∧ q ≤ a + w) : ∀ {k a : Nat} {b : Bool}, foK f g h e w k a b = true → (b = true ∨ (a < p ∧ p ≤ a + k * w)) ∧ (a < q ∧ q ≤ a + k * w)
  | 0, a, b, z => by cases z
  | k + 1, a, b, z => by
    unfold foK at z
    rw [Nat.add_mul]
    simp only [Bool.or_eq_true, Bool.and_eq_true] at z
    rcases z with (z | z) | z
    · have := hf a z
      exact ⟨.inr (by omega), by omega⟩
    · have := hh a z.2
      exact ⟨.inl z.1, by omega⟩
    · obtain ⟨z1, z2⟩ := foK_in hf hg hh z
      refine ⟨?_, by omega⟩
      rcases z1 with z1 | z1
      · simp only [Bool.or_eq_true, Bool.and_eq_true] at z1
        rcases z1 with z1 | z1
        · exact .inl z1.1
        · have := hg a z1
          exact .inr (by omega)
      · exact .inr (by omega)
mutual
theorem Sh.fo_in {p q : Nat} : ∀ {s : Sh} {a : Nat}, s.fo p q a = true → (a < p ∧ p ≤ a + s.wt) ∧ (a < q ∧ q ≤ a + s.wt)
  | .one _, a, z => by cases z
  | .row l, a, z => by
    obtain ⟨z1, z2⟩ := Sh.fos_in z
    rcases z1 with z1 | z1
    · cases z1
    · exact ⟨z1, z2⟩
  | .eit l, a, z => Sh.foo_in z
  | .many s, a, z => by
    unfold Sh.fo at z
    simp only [Bool.or_eq_true, Bool.and_eq_true] at z
    rcases z with z | z
    · exact Sh.fo_in (s := s) z
    · exact ⟨Sh.en_in (s := s) z.1, Sh.bg_in (s := s) z.2⟩
  | .tim s lo hi, a, z => by
    obtain ⟨z1, z2⟩ := foK_in (fun b h => Sh.fo_in (s := s) h) (fun b h => Sh.en_in (s := s) h) (fun b h => Sh.bg_in (s := s) h) z
    rcases z1 with z1 | z1
    · cases z1
    · exact ⟨z1, z2⟩
theorem Sh.fos_in {p q : Nat} : ∀ {l : List Sh} {a : Nat} {b : Bool}, Sh.fos p q l a b = true → (b = true ∨ (a < p ∧ p ≤ a + Sh.wts l)) ∧ (a < q ∧ q ≤ a + Sh.wts l)
  | [], a, b, z => by cases z
  | s :: l, a, b, z => by
    unfold Sh.fos at z
    unfold Sh.wts
    simp only [Bool.or_eq_true, Bool.and_eq_true] at z
    rcases z with (z | z) | z
    · have := Sh.fo_in z
      exact ⟨.inr (by omega), by omega⟩
    · have := Sh.bg_in z.2
      exact ⟨.inl z.1, by omega⟩
    · obtain ⟨z1, z2⟩ := Sh.fos_in z
      refine ⟨?_, by omega⟩
      rcases z1 with z1 | z1
      · simp only [Bool.or_eq_true, Bool.and_eq_true] at z1
        rcases z1 with z1 | z1
        · exact .inl z1.1
        · have := Sh.en_in z1
          exact .inr (by omega)
      · exact .inr (by omega)
theorem Sh.foo_in {p q : Nat} : ∀ {l : List Sh} {a : Nat}, Sh.foo p q l a = true → (a < p ∧ p ≤ a + Sh.wts l) ∧ (a < q ∧ q ≤ a + Sh.wts l)
  | [], a, z => by cases z
  | s :: l, a, z => by
    unfold Sh.foo at z
    unfold Sh.wts
    rcases Bool.or_eq_true _ _ |>.mp z with z | z
    · have := Sh.fo_in z
      omega
    · have := Sh.foo_in z
      omega
end
end NR

set_option Elab.async false
set_option linter.all false
set_option maxRecDepth 100000
set_option maxHeartbeats 1000000
/-! A def that calls itself. -/
namespace NR
open PySem PySem.Spec PyProof.Rows L2
/-- nothing is told -/
def mNo : MF := fun _ _ => .no
theorem fnG_no {P : Program} {w : World} {K : PySem.W.Frag} {mg : Str → Option Value} {base : Heap} {G : Cf} {x : Str} {st : Stmt} {ps : List Str} {k n : Nat} (d : DefAt K mg x st ps) (hn : ps.length = n) : FnG P w K mg base G x k n mNo :=
  d.fn fun f fd F => ⟨fun vs H Q E h => h.1.trans hn.symm, fun A outer s H args us vs Q E hr he hb hv hs => by
    obtain ⟨_, et, ds, h, _, _, hP⟩ := hs
    exact hP.elim⟩
end NR

set_option Elab.async false
set_option linter.all false
set_option maxRecDepth 100000
set_option maxHeartbeats 1000000
/-! Dicts: keys ints and texts, or tuples of such. -/
namespace NR
open PySem PySem.Spec PyProof.Rows L2
def keyT? : D → Option (List DKey)
  | .tup l => allM keyD? l
  | _ => none
def valKD {κ : Type} [DecidableEq κ] (kvs : List (κ × D)) (k : κ) : Option D := (kvs.find? fun p => decide (p.1 = k)).map (·.2)
/-- what a dict holds at a key -/
def dGet? (h : IH) (o i : D) : Option (Option D) := match o with
  | .ref n => match h[n]? with
    | some (.dk kvs) => (keyD? i).map (valKD kvs)
    | some (.dt kvs) => (keyT? i).map (valKD kvs)
    | _ => none
  | .fd ks l => (keyD? i).map (valKD (ks.zip l))
  | _ => none
theorem key_den {G : Cf} {et : List Addr} {H : Hp} {d : D} {v : V} {k : DKey} (e : keyD? d = some k) (r : Den G et H d v) : v = kV (keyV k) := by
  unfold keyD? at e
  split at e
  · cases e; exact den_int.mp r
  · cases e; exact den_str.mp r
  · cases e
theorem keys_den {G : Cf} {et : List Addr} {H : Hp} : ∀ {l : List D} {vs : List V} {ks : List DKey}, allM keyD? l = some ks → DenL G et H l vs → vs = (ks.map keyV).map kV
  | [], vs, ks, e, r => by
    simp only [allM, Option.some.injEq] at e
    subst e
    exact denL_nil.mp r
  | d :: l, vs, ks, e, r => by
    obtain ⟨a, as, e1, e2, rfl⟩ := allM_cons e
    obtain ⟨v, ws, rfl, r1, r2⟩ := denL_cons.mp r
    rw [key_den e1 r1, keys_den e2 r2]
    rfl
theorem keyVs_inj : ∀ {a b : List DKey}, a.map keyV = b.map keyV → a = b
  | [], [], _ => rfl
  | [], _ :: _, h => by simp at h
  | _ :: _, [], h => by simp at h
  | x :: a, y :: b, h => by
    simp only [List.map_cons, List.cons.injEq] at h
    rw [keyV_inj h.1, keyVs_inj h.2]
def OptR (G : Cf) (et : List Addr) (H : Hp) : Option D → Option V → Prop
  | some d, some v => Den G et H d v
  | none, none => True
  | _, _ => False
theorem denK_val {κ κ' : Type} [DecidableEq κ] [DecidableEq κ'] {f : κ → κ'} (inj : ∀ a b, f a = f b → a = b) {G : Cf} {et : List Addr} {H : Hp} (k : κ) : ∀ {kvs : List (κ × D)} {ws : List (κ' × V)}, DenK f G et H kvs ws →
    OptR G et H (valKD kvs k) (valV ws (f k))
  | [], [], h => trivial
  | [], _ :: _, h => by have := h.1; simp at this
  | _ :: _, [], h => by have := h.1; simp at this
  | p :: kvs, q :: ws, h => by
    obtain ⟨h1, h2⟩ := h
    simp only [List.map_cons, List.cons.injEq] at h1
    simp only [List.map_cons] at h2
    obtain ⟨v0, ws0, e0, h3, h4⟩ := denL_cons.mp h2
    simp only [List.cons.injEq] at e0
    obtain ⟨rfl, rfl⟩ := e0
    have ih := denK_val inj (G := G) (et := et) (H := H) k (kvs := kvs) (ws := ws) ⟨h1.2, h4⟩
    by_cases e : p.1 = k
    · have e' : q.1 = f k := by rw [h1.1, e]
      have a1 : valKD (p :: kvs) k = some p.2 := by simp [valKD, e]
      rw [a1, valV_pos e']
      exact h3
    · have e' : ¬ q.1 = f k := fun z => e (inj _ _ (h1.1.symm.trans z))
      have a1 : valKD (p :: kvs) k = valKD kvs k := by simp [valKD, e]
      rw [a1, valV_neg e']
      exact ih
theorem denK_zip {G : Cf} {et : List Addr} {H : Hp} : ∀ {ks : List DKey} {l : List D} {ws : List (Key × V)}, ws.map (·.1) = ks.map keyV → DenL G et H l (ws.map (·.2)) → DenK keyV G et H (ks.zip l) ws
  | [], l, [], h1, h2 => by
    have := h2.len
    have : l = [] := List.eq_nil_of_length_eq_zero (by simpa using this.symm)
    subst this
    exact ⟨rfl, by simp⟩
  | [], _, _ :: _, h1, _ => by simp at h1
  | _ :: _, _, [], h1, _ => by simp at h1
  | k :: ks, l, w :: ws, h1, h2 => by
    simp only [List.map_cons, List.cons.injEq] at h1 h2
    cases l with
    | nil => have := h2.len; simp at this
    | cons d l =>
      obtain ⟨v0, ws0, e0, h3, h4⟩ := denL_cons.mp h2
      simp only [List.cons.injEq] at e0
      obtain ⟨e1, e2⟩ := e0
      have ih := denK_zip h1.2 (e2 ▸ h4)
      refine ⟨by simp [h1.1, ih.1], ?_⟩
      simp only [List.zip_cons_cons, List.map_cons]
      exact denL_cons.mpr ⟨w.2, _, rfl, by rw [e1]; exact h3, ih.2⟩
section
variable {G : Cf} {et : List Addr} {H : Hp} {h : IH}
theorem dget_of (R : HRel G et h H) {o i : D} {r : Option D} {vo vi : V} (e : dGet? h o i = some r) (ro : Den G et H o vo) (ri : Den G et H i vi) : ∃ a u, vo = .ref a ∧ DGet H a vi u ∧ OptR G et H r u := by
  cases o with
  | ref n =>
    obtain ⟨a, h1, rfl⟩ := den_ref.mp ro
    simp only [dGet?] at e
    split at e
    · rename_i kvs hc
      obtain ⟨ws, c1, c2⟩ := R.cell n _ a hc h1
      simp only [Option.map_eq_some_iff] at e
      obtain ⟨k, e1, rfl⟩ := e
      rw [key_den e1 ri]
      exact ⟨a, _, rfl, DGet.k c1, denK_val (fun a b => keyV_inj) k c2⟩
    · rename_i kvs hc
      obtain ⟨ws, c1, c2⟩ := R.cell n _ a hc h1
      simp only [Option.map_eq_some_iff] at e
      obtain ⟨k, e1, rfl⟩ := e
      cases i with
      | tup l =>
        obtain ⟨b, vs, rfl, t1, t2⟩ := den_tup.mp ri
        have ek := keys_den (show allM keyD? l = some k from e1) t2
        subst ek
        exact ⟨a, _, rfl, DGet.t c1 t1, denK_val (fun a b => keyVs_inj) k c2⟩
      | _ => cases e1
    · cases e
  | fd ks l =>
    obtain ⟨a, ws, rfl, ⟨oo, c1⟩, c2, c3⟩ := den_fd.mp ro
    simp only [dGet?, Option.map_eq_some_iff] at e
    obtain ⟨k, e1, rfl⟩ := e
    rw [key_den e1 ri]
    exact ⟨a, _, rfl, .inl ⟨ws, _, .inr ⟨oo, c1⟩, rfl, rfl⟩, denK_val (fun a b => keyV_inj) k (denK_zip c2 c3)⟩
  | _ => cases e
end
/-- k in d -/
def dDIn (neg : Bool) : D → D → IH → R D := fun x y h => match dGet? h y x with
  | some r => .ok (.bl (if neg then !r.isSome else r.isSome)) h
  | none => .no
/-- d[k] -/
def dDGet : D → D → IH → R D := fun o i h => match dGet? h o i with
  | some (some d) => .ok d h
  | _ => .no
def rDIn (neg : Bool) : R2 := fun x y H Q => ∃ a o, y = .ref a ∧ DGet H a x o ∧ Q (.bl (if neg then !o.isSome else o.isSome)) H
section
variable {X : Cx} {G : Cf} {W : WX}
theorem op_dIn (hu : X.A.units + 64 < cLine) : OpR X (compareOp .In) (rDIn false) := by
  intro pins s σ H x y v u Q I rx ry h
  obtain ⟨a, o, rfl, g, q⟩ := h
  obtain rfl : u = Value.ref a := ry
  exact d_in (by omega) I g rx fun s3 I3 => ⟨.bl o.isSome, H, I3, rfl, q⟩
theorem op_dNotIn (hu : X.A.units + 64 < cLine) : OpR X (compareOp .NotIn) (rDIn true) := by
  intro pins s σ H x y v u Q I rx ry h
  obtain ⟨a, o, rfl, g, q⟩ := h
  obtain rfl : u = Value.ref a := ry
  exact d_notIn (by omega) I g rx fun s3 I3 => ⟨.bl (!o.isSome), H, I3, rfl, q⟩
theorem dDIn_ok (neg : Bool) : OpS G (rDIn neg) (dDIn neg) := by
  intro et H h x y v w W Q rx ry R p
  unfold dDIn at p
  split at p
  · rename_i r e
    obtain ⟨a, u, rfl, g, hr⟩ := dget_of R e ry rx
    have es : u.isSome = r.isSome := by
      cases u <;> cases r <;> first | rfl | exact hr.elim
    refine ⟨a, u, rfl, g, ?_⟩
    rw [es]
    exact p.here R _ (by simp)
  · exact p.elim
theorem me_dget {a b : Expr} {ma mb : ME} {pos : Pos} (hu : X.A.units + 64 < cLine) (ha : PE X a (tE G W ma)) (hb : PE X b (tE G W mb)) (hs : NoSl b := by exact fun _ _ => rfl) : PE X (.Subscript a b pos) (tE G W (mOp dDGet ma mb)) :=
  PE.imp (pe_dget (by omega) ha hb hs) fun σ H Q ⟨et, env, h, hE, hH, hP⟩ => by
    refine ⟨et, env, h, hE, hH, (Pst.of_bind hP).imp fun et1 H1 h1 x p e hr q v hv => ?_⟩
    refine ⟨et1, env, h1, hE.mono p e, hr, (Pst.of_bind q).imp fun et2 H2 h2 y p2 e2 hr2 q2 w hw => ?_⟩
    unfold dDGet at q2
    split at q2
    · rename_i d ed
      obtain ⟨a, u, rfl, g, hd⟩ := dget_of hr2 ed (hv.mono p2 e2) hw
      cases u with
      | none => exact hd.elim
      | some z => exact ⟨a, z, rfl, g, q2.here hr2 _ hd⟩
    · exact q2.elim
/-- d.get(k) -/
def dDGet1 : D → D → IH → R D := fun o i h => match dGet? h o i with
  | some r => .ok (r.getD .non) h
  | none => .no
def isDD (h : IH) : D → Bool
  | .ref n => match h[n]? with
    | some (.dk _) => true
    | some (.dt _) => true
    | _ => false
  | _ => false
theorem isDD_ok {et : List Addr} {H : Hp} {h : IH} (R : HRel G et h H) {d : D} {v : V} (e : isDD h d = true) (r : Den G et H d v) : ∃ a, v = .ref a ∧ IsD H a := by
  cases d with
  | ref n =>
    obtain ⟨a, h1, rfl⟩ := den_ref.mp r
    simp only [isDD] at e
    split at e
    · rename_i kvs hc
      obtain ⟨ws, c1, c2⟩ := R.cell n _ a hc h1
      exact ⟨a, rfl, .inl ⟨ws, .inl c1⟩⟩
    · rename_i kvs hc
      obtain ⟨ws, c1, c2⟩ := R.cell n _ a hc h1
      exact ⟨a, rfl, .inr ⟨ws, .inl c1⟩⟩
    · cases e
  | _ => cases e
def mDGet1 (mo mi : ME) : ME := fun env h => (mo env h).bind fun x h1 => if isDD h1 x = true then (mi env h1).bind fun y h2 => dDGet1 x y h2 else .no
theorem me_dget1 {o e : Expr} {mo mi : ME} {apos cpos : Pos} (hu : X.A.units + 64 < cLine) (ho : PE X o (tE G W mo)) (he : PE X e (tE G W mi)) (m : M1 X o "get" apos e cpos := by exact ⟨rfl, rfl, rfl, rfl⟩) : PE X (.Call (.Attribute o "get" apos) [e] [] cpos) (tE G W (mDGet1 mo mi)) :=
  PE.imp (pe_dget1 (by omega) ho he m) fun σ H Q ⟨et, env, h, hE, hH, hP⟩ => by
    refine ⟨et, env, h, hE, hH, (Pst.of_bind hP).imp fun et1 H1 h1 x p e hr q v hv => ?_⟩
    split at q
    · rename_i c
      obtain ⟨a, rfl, hd⟩ := isDD_ok hr c hv
      refine ⟨a, rfl, hd, et1, env, h1, hE.mono p e, hr, (Pst.of_bind q).imp fun et2 H2 h2 y p2 e2 hr2 q2 w hw => ?_⟩
      unfold dDGet1 at q2
      split at q2
      · rename_i r ed
        obtain ⟨b, u, eb, g, hd⟩ := dget_of hr2 ed (hv.mono p2 e2) hw
        cases eb
        refine ⟨u, g, q2.here hr2 _ ?_⟩
        cases u <;> cases r <;> first | exact hd.elim | skip
        · simp
        · exact hd
      · exact q2.elim
    · exact q.elim
/-- d[k] = v -/
def putDD (o i v : D) (h : IH) : Option IH := match o with
  | .ref n => match h[n]? with
    | some (.dk kvs) => match keyD? i with
      | some k => if kvs.length < 10000000 then some (h.set n (.dk (putKD kvs k v))) else none
      | none => none
    | some (.dt kvs) => match keyT? i with
      | some k => if kvs.length < 10000000 then some (h.set n (.dt (putKD kvs k v))) else none
      | none => none
    | _ => none
  | _ => none
def rSetD : V → V → V → Hp → (Hp → Prop) → Prop := fun o i v H Q => ∃ a H', o = .ref a ∧ DPut H a i v H' ∧ Q H'
theorem set_dict (hu : X.A.units + 64 < cLine) : PSet X rSetD := by
  intro pins s σ H o i v ov iv u Q I ro ri rv h
  obtain ⟨a, H', rfl, g, q⟩ := h
  obtain rfl : ov = Value.ref a := ro
  exact d_setItem (by omega) I g ri rv fun s4 I4 => ⟨H', I4, q⟩
theorem putDD_ok {et : List Addr} {H : Hp} {h h' : IH} (R : HRel G et h H) {o i v : D} {vo vi vv : V} {Q : Hp → Prop} (e : putDD o i v h = some h') (ro : Den G et H o vo) (ri : Den G et H i vi) (rv : Den G et H v vv) (q : ∀ H', Ext H H' → HRel G et h' H' → Q H') : rSetD vo vi vv H Q := by
  cases o with
  | ref n =>
    obtain ⟨a, h1, rfl⟩ := den_ref.mp ro
    simp only [putDD] at e
    split at e
    · rename_i kvs hc
      split at e
      · rename_i k ek
        split at e
        · rename_i l
          cases e
          obtain ⟨ws, c1, c2⟩ := R.cell n _ a hc h1
          rw [key_den ek ri]
          have lw : ws.length = kvs.length := by have := congrArg List.length c2.1; simpa using this
          have ex : Ext H (upd H a (.dK (putK ws (keyV k) vv))) := Ext.mut c1 True.intro
          refine ⟨a, _, rfl, DPut.k c1 (by rw [lw, sizeLine_eq]; omega), q _ ex (R.set hc h1 rfl c1 True.intro ⟨_, upd_same, (denK_put (fun a b => keyV_inj) rv c2).mono List.prefix_rfl ex⟩)⟩
        · cases e
      · cases e
    · rename_i kvs hc
      split at e
      · rename_i k ek
        split at e
        · rename_i l
          cases e
          obtain ⟨ws, c1, c2⟩ := R.cell n _ a hc h1
          cases i with
          | tup t =>
            obtain ⟨b, vs, rfl, t1, t2⟩ := den_tup.mp ri
            have ek := keys_den (show allM keyD? t = some k from ek) t2
            subst ek
            have lw : ws.length = kvs.length := by have := congrArg List.length c2.1; simpa using this
            have ex : Ext H (upd H a (.dT (putK ws (k.map keyV) vv))) := Ext.mut c1 True.intro
            refine ⟨a, _, rfl, DPut.t c1 t1 (by rw [lw, sizeLine_eq]; omega), q _ ex (R.set hc h1 rfl c1 True.intro ⟨_, upd_same, (denK_put (fun a b => keyVs_inj) rv c2).mono List.prefix_rfl ex⟩)⟩
          | _ => cases ek
        · cases e
      · cases e
    · cases e
  | _ => cases e
def msSetD (mo mi me : ME) : MS := fun env h => (me env h).bindS env fun v h1 => (mo env h1).bindS env fun o h2 => (mi env h2).bindS env fun i h3 => match putDD o i v h3 with
  | some h4 => .nx env h4
  | none => .no
theorem ms_setD {e o i : Expr} {me mo mi : ME} {pos pos' : Pos} (hu : X.A.units + 64 < cLine) (he : PE X e (tE G W me)) (ho : PE X o (tE G W mo)) (hi : PE X i (tE G W mi)) (ha : ∀ v, assign (.Subscript o i pos') X.env v = (do
      let ov ← holding [v] (eval o X.env)
      let iv ← holding [v, ov] (eval i X.env)
      standAt pos'
      holding [v, ov, iv] (setItem ov iv v)
      release [v, ov, iv] []) := by intro _; rfl) (hs : swapsWithSole [.Subscript o i pos'] e pos.line X.env = pure false := by rfl) (hw : swappedStores [.Subscript o i pos'] e X.env = pure none := by rfl)
    (h1 : (assignEach [.Subscript o i pos'] X.env).map (·.2) = [assign (.Subscript o i pos') X.env] := by rfl) : PS X (.Assign [.Subscript o i pos'] e pos) (tS G W (msSetD mo mi me)) :=
  PS.imp (ps_asg he (pg_sub ho hi (set_dict hu) ha) hs hw h1) fun D σ H ⟨et, env, h, hE, hH, hP⟩ => by
    refine ⟨et, env, h, hE, hH, (PstS.of_bind hE hP).imp fun et1 H1 h1 v p e hr q vv hv => ?_⟩
    have hE1 := hE.mono p e
    refine ⟨et1, env, h1, hE1, hr, (PstS.of_bind hE1 q).imp fun et2 H2 h2 o p2 e2 hr2 q2 vo ho => ?_⟩
    have hE2 := hE1.mono p2 e2
    refine ⟨et2, env, h2, hE2, hr2, (PstS.of_bind hE2 q2).imp fun et3 H3 h3 i p3 e3 hr3 q3 vi hi => ?_⟩
    have hE3 := hE2.mono p3 e3
    split at q3
    · rename_i h4 e4
      exact putDD_ok hr3 e4 (ho.mono p3 e3) hi ((hv.mono p2 e2).mono p3 e3) fun H' ex hr4 => q3 et3 H' σ List.prefix_rfl ex hr4 (hE3.mono List.prefix_rfl ex)
    · exact q3.elim
/-- an empty dict with tuples as keys -/
def mDictT : ME := fun _ h => .ok (.ref h.length) (h ++ [.dt []])
theorem me_dict0T {pos : Pos} : PE X (.Dict [] [] pos) (tE G W mDictT) := PE.imp pe_dnewT fun σ H Q ⟨et, env, h, hE, hH, hP⟩ p hp => by
  have hH1 : HRel G (et ++ [p]) (h ++ [.dt []]) (upd H p (.dT [])) := hH.push hp ⟨[], upd_same, rfl, by simp⟩
  refine hP (et ++ [p]) _ (List.prefix_append _ _) (Ext.new hp) hH1 _ (den_ref.mpr ⟨p, ?_, rfl⟩)
  rw [← hH.len]
  simp
end
end NR

set_option Elab.async false
set_option linter.all false
set_option maxRecDepth 100000
set_option maxHeartbeats 1000000
/-! More sources, more operators. -/
namespace NR
open PySem PySem.Spec PyProof.Rows L2
/-! ### ranges downwards -/
def intsDown (hi : Int) (n : Nat) : List D := (List.range n).map fun i => .int (hi - (i : Nat))
def iRange3 (m : MA) : MI := fun env h => (m env h).bind fun xs h1 => match xs with
  | [.int i, .int j, .int c] => if c = -1 ∧ -10000000 ≤ i ∧ i ≤ 10000000 ∧ -10000000 ≤ j ∧ j ≤ 10000000 then .ok (.st (intsDown i (i - j).toNat)) h1 else .no
  | _ => .no
theorem down_get (hi : Int) (n i : Nat) : (intsDown hi n)[i]? = if i < n then some (.int (hi - (i : Nat))) else none := by
  unfold intsDown
  rw [List.getElem?_map]
  by_cases h : i < n
  · rw [if_pos h, List.getElem?_range h]
    rfl
  · rw [if_neg h, List.getElem?_eq_none (by simpa using h)]
    rfl
section
variable {X : Cx} {G : Cf} {W : WX} {e tg : Expr} {es : List Expr} {me : ME} {mt : MA} {pos p : Pos}
theorem jrel_down {et : List Addr} {H : Hp} {hi : Int} {n : Nat} : JRel G et H (.st (intsDown hi n)) (Itc hi (-1) n) := jrel_st fun et1 H1 h1 p ex R i => by
  rw [down_get]
  by_cases h : i < n
  · rw [if_pos h]
    refine ⟨h, fun x H' ⟨hH, hx⟩ => ?_⟩
    rw [hH, hx]
    refine ⟨Ext.refl _, R, ?_⟩
    rw [den_int]
    congr 1
    omega
  · rw [if_neg h]
    show n ≤ i
    omega
theorem list3 {et : List Addr} {H : Hp} {a b c : D} {vs : List V} (h : DenL G et H [a, b, c] vs) : ∃ x y z, vs = [x, y, z] ∧ Den G et H a x ∧ Den G et H b y ∧ Den G et H c z := by
  obtain ⟨x, v1, rfl, h1, k⟩ := denL_cons.mp h
  obtain ⟨y, v2, rfl, h2, k⟩ := denL_cons.mp k
  obtain ⟨z, v3, rfl, h3, k⟩ := denL_cons.mp k
  rw [denL_nil.mp k]
  exact ⟨x, y, z, rfl, h1, h2, h3⟩
theorem mi_range3 {a b c : Expr} (ha : PA X [a, b, c] (tA G W mt)) (hm : X.mg "range" = none) (hg : Gl X "range" := by rfl) (hs : starEach [a, b, c] X.env = (false, eval a X.env) :: starEach [b, c] X.env := by rfl) (hpl : (backTo pos (starEach [b, c] X.env)).any (·.1) = false := by rfl) : PI X tg (.Call (.Name "range" p) [a, b, c] [] pos) (tI G W (iRange3 mt)) :=
  PI.imp (pi_range3 hg hm ha hs hpl) fun σ H R ⟨et, env, h, hE, hH, hP⟩ => by
    refine ⟨et, env, h, hE, hH, (Pst.of_bind hP).imp fun et1 H1 h1 xs p e hr q vs hv => ?_⟩
    split at q
    · split at q
      · rename_i i j k c
        obtain ⟨v, w, u, rfl, r1, r2, r3⟩ := list3 hv
        obtain ⟨rfl, c1, c2, c3, c4⟩ := c
        exact ⟨i, j, -1, _, by rw [den_int.mp r1, den_int.mp r2, den_int.mp r3], RgC.neg (by omega) (by omega) (by omega) (by omega), q.here hr _ jrel_down⟩
      · exact q.elim
    · exact q.elim
end
end NR

set_option Elab.async false
set_option linter.all false
set_option maxRecDepth 100000
set_option maxHeartbeats 1000000
/-! A for over what stands still, by its items. -/
namespace NR
open PySem PySem.Spec PyProof.Rows L2
def forL (g : MG) (b : MS) : List D → EV → IH → RS
  | [], env, h => .nx env h
  | d :: ds, env, h => match g d env with
    | none => .no
    | some e1 => match b e1 h with
      | .nx e2 h2 => forL g b ds e2 h2
      | .ct e2 h2 => forL g b ds e2 h2
      | .bk e2 h2 => .nx e2 h2
      | r => r
/-- what follows a turn -/
def RS.on (k : EV → IH → RS) : RS → RS
  | .nx e h => k e h
  | .ct e h => k e h
  | .bk e h => .nx e h
  | r => r
section
variable {g : MG} {b : MS} {env e1 : EV} {h h' : IH} {d : D} {ds : List D} {k : EV → IH → RS}
@[simp] theorem on_nx : (RS.nx env h).on k = k env h := rfl
@[simp] theorem on_ct : (RS.ct env h).on k = k env h := rfl
@[simp] theorem on_bk : (RS.bk env h).on k = .nx env h := rfl
@[simp] theorem on_rt : (RS.rt d h).on k = .rt d h := rfl
@[simp] theorem on_ex {c : Str} {x : XF} : (RS.ex c x env h).on k = .ex c x env h := rfl
@[simp] theorem forL_nil : forL g b [] env h = .nx env h := rfl
theorem forL_cons (e : g d env = some e1) : forL g b (d :: ds) env h = (b e1 h).on (forL g b ds) := by
  show (match g d env with
    | none => _
    | some e1 => _) = _
  rw [e]
  dsimp only
  cases b e1 h <;> rfl
theorem forM_forL : forM (.st ds) g b ((Src.st ds).many h' + 1) 0 env h = forL g b ds env h := by
  have go : ∀ (m i : Nat) (env : EV) (h : IH), i + m = ds.length + 1 → i ≤ ds.length → forM (.st ds) g b m i env h = forL g b (ds.drop i) env h := by
    intro m
    induction m with
    | zero => 
      intro i env h e l
      omega
    | succ m ih =>
      intro i env h e l
      unfold forM
      rw [if_pos (show (Src.st ds).ok h = true from rfl)]
      show (match ds[i]? with
        | none => _
        | some d => _) = _
      cases hd : ds[i]? with
      | none =>
        rw [List.drop_eq_nil_of_le (List.getElem?_eq_none_iff.mp hd)]
        rfl
      | some d =>
        obtain ⟨hi, hx⟩ := List.getElem?_eq_some_iff.mp hd
        rw [List.drop_eq_getElem_cons hi, hx]
        dsimp only [forL]
        cases g d env with
        | none => rfl
        | some e1 =>
          dsimp only
          cases b e1 h <;> first | rfl | exact ih (i + 1) _ _ (by omega) (by omega)
  exact go _ 0 env h (by show 0 + (ds.length + 1) = _; omega) (Nat.zero_le _)
theorem forL_app {as bs : List D} {env : EV} {h : IH} {e2 : EV} {h2 : IH} (e : forL g b as env h = .nx e2 h2) (nb : ∀ (i : Nat) (d : D) (env : EV) (h : IH) (e1 : EV), as[i]? = some d → g d env = some e1 → ∀ e2 h2, b e1 h ≠ .bk e2 h2) : forL g b (as ++ bs) env h = forL g b bs e2 h2 := by
  induction as generalizing env h with
  | nil => cases e; rfl
  | cons d as ih =>
    cases hg : g d env with
    | none => simp [forL, hg] at e
    | some e1 =>
      rw [List.cons_append, forL_cons hg]
      rw [forL_cons hg] at e
      have nb0 := nb 0 d env h e1 rfl hg
      have nb' : ∀ (i : Nat) (d : D) (env : EV) (h : IH) (e1 : EV), as[i]? = some d → g d env = some e1 → ∀ e2 h2, b e1 h ≠ .bk e2 h2 := fun i d env h e1 q => nb (i + 1) d env h e1 (by simpa using q)
      revert e nb0
      cases b e1 h with
      | nx e3 h3 => intro e _; exact ih e nb'
      | ct e3 h3 => intro e _; exact ih e nb'
      | bk e3 h3 => intro _ nb0; exact absurd rfl (nb0 e3 h3)
      | rt _ _ => intro e; cases e
      | ex _ _ _ _ => intro e; cases e
      | no => intro e; cases e
end
/-! ### dicts whose keys are numbers from nought -/
def lookN {A : Type} (d : List (Nat × A)) (k : Nat) : Option A := (d.find? fun p => decide (p.1 = k)).map (·.2)
def dkN {A : Type} (f : A → D) (d : List (Nat × A)) : List (DKey × D) := d.map fun p => (Sum.inl (p.1 : Int), f p.2)
theorem valKD_dkN {A : Type} {f : A → D} (k : Nat) : ∀ (d : List (Nat × A)), valKD (dkN f d) (Sum.inl (k : Int)) = (lookN d k).map f
  | [] => rfl
  | p :: d => by
    have ih := valKD_dkN (f := f) k d
    unfold valKD lookN at *
    unfold dkN at *
    rw [List.map_cons, List.find?_cons, List.find?_cons]
    by_cases e : p.1 = k
    · have : (Sum.inl (p.1 : Int) : DKey) = Sum.inl (k : Int) := by rw [e]
      simp [e]
    · have : ¬ ((Sum.inl (p.1 : Int) : DKey) = Sum.inl (k : Int)) := fun z => e (by injection z with z; omega)
      simp only [decide_eq_false this, decide_eq_false e]
      exact ih
theorem putKD_dkN {A : Type} {f : A → D} {k : Nat} {a : A} {d : List (Nat × A)} (e : lookN d k = none) : putKD (dkN f d) (Sum.inl (k : Int)) (f a) = dkN f (d ++ [(k, a)]) := by
  have h : ((dkN f d).any fun p => decide (p.1 = (Sum.inl (k : Int) : DKey))) = false := by
    rw [List.any_eq_false]
    intro p hp
    obtain ⟨q, hq, rfl⟩ := List.mem_map.mp hp
    simp only [decide_eq_true_eq]
    intro z
    injection z with z
    have : q.1 = k := by omega
    unfold lookN at e
    rw [Option.map_eq_none_iff, List.find?_eq_none] at e
    exact e q hq (by simpa using this)
  unfold putKD
  rw [h, if_neg Bool.false_ne_true]
  simp [dkN]
theorem lookN_none {A : Type} {d : List (Nat × A)} {k : Nat} : lookN d k = none ↔ k ∉ d.map (·.1) := by
  unfold lookN
  rw [Option.map_eq_none_iff, List.find?_eq_none]
  simp only [decide_eq_true_eq, List.mem_map, not_exists, not_and]
theorem lookN_some {A : Type} {d : List (Nat × A)} {k : Nat} {a : A} (e : lookN d k = some a) : (k, a) ∈ d := by
  unfold lookN at e
  rw [Option.map_eq_some_iff] at e
  obtain ⟨p, h1, h2⟩ := e
  have h3 := List.mem_of_find?_eq_some h1
  have h4 := List.find?_some h1
  simp only [decide_eq_true_eq] at h4
  subst h2
  subst h4
  exact h3
theorem lookN_app {A : Type} {d e : List (Nat × A)} {k : Nat} : lookN (d ++ e) k = match lookN d k with | some a => some a | none => lookN e k := by
  unfold lookN
  rw [List.find?_append]
  cases d.find? fun p => decide (p.1 = k) <;> rfl
@[simp] theorem dkN_len {A : Type} {f : A → D} {d : List (Nat × A)} : (dkN f d).length = d.length := by simp [dkN]
theorem dDIn_dk {A : Type} {f : A → D} {h : IH} {n k : Nat} {neg : Bool} {d : List (Nat × A)} (e : h[n]? = some (.dk (dkN f d))) : dDIn neg (.int (k : Nat)) (.ref n) h = .ok (.bl (if neg then (lookN d k).isNone else (lookN d k).isSome)) h := by
  unfold dDIn dGet?
  simp only [e, keyD?, Option.map_some, valKD_dkN, Option.isSome_map]
  cases lookN d k <;> rfl
theorem dDGet_dk {A : Type} {f : A → D} {h : IH} {n k : Nat} {d : List (Nat × A)} {a : A} (e : h[n]? = some (.dk (dkN f d))) (l : lookN d k = some a) : dDGet (.ref n) (.int (k : Nat)) h = .ok (f a) h := by
  unfold dDGet dGet?
  simp only [e, keyD?, Option.map_some, valKD_dkN, l]
theorem putDD_dk {A : Type} {f : A → D} {h : IH} {n k : Nat} {d : List (Nat × A)} {a : A} (e : h[n]? = some (.dk (dkN f d))) (l : lookN d k = none) (hl : d.length < 10000000) : putDD (.ref n) (.int (k : Nat)) (f a) h = some (h.set n (.dk (dkN f (d ++ [(k, a)])))) := by
  unfold putDD
  simp only [e, keyD?, dkN_len, if_pos hl, putKD_dkN l]
@[simp] theorem ap_msSetD {mo mi me : ME} {env : EV} {h : IH} : msSetD mo mi me env h = (me env h).bindS env fun v h1 => (mo env h1).bindS env fun o h2 => (mi env h2).bindS env fun i h3 => match putDD o i v h3 with
  | some h4 => .nx env h4
  | none => .no := rfl
@[simp] theorem ap_mDGet1 {mo mi : ME} {env : EV} {h : IH} : mDGet1 mo mi env h = (mo env h).bind fun x h1 => if isDD h1 x = true then (mi env h1).bind fun y h2 => dDGet1 x y h2 else .no := rfl
@[simp] theorem ap_mDictT {env : EV} {h : IH} : mDictT env h = .ok (.ref h.length) (h ++ [.dt []]) := rfl
theorem ap_mDict1 {mk mv : ME} {env : EV} {h : IH} {k v : D} {kd : DKey} (e1 : mk env (h ++ [.dk []]) = .ok k (h ++ [.dk []])) (e2 : mv env (h ++ [.dk []]) = .ok v (h ++ [.dk []])) (e3 : keyD? k = some kd) : mDict [(mk, mv)] env h = .ok (.ref h.length) (h ++ [.dk [(kd, v)]]) := by
  unfold mDict mPr
  rw [e1]
  simp only [bind_ok]
  rw [e2]
  simp [mPr, keyPs, e3, dkAt, putKD]
@[simp] theorem ap_iRange3 {ta : MA} {env : EV} {h : IH} : iRange3 ta env h = (ta env h).bind fun xs h1 => match xs with
  | [.int i, .int j, .int c] => if c = -1 ∧ -10000000 ≤ i ∧ i ≤ 10000000 ∧ -10000000 ≤ j ∧ j ≤ 10000000 then .ok (.st (intsDown i (i - j).toNat)) h1 else .no
  | _ => .no := rfl
/-- signs beside the rooms of a row -/
def zD (t row : List Nat) : List D := List.zipWith (fun x y : D => D.tup [x, y]) (t.map fun c => .str [c]) (row.map nD)
@[simp] theorem zD_len {t row : List Nat} : (zD t row).length = min t.length row.length := by simp [zD]
theorem zip_get {t row : List Nat} {i : Nat} {d : D} (e : (zD t row)[i]? = some d) : ∃ c s, t[i]? = some c ∧ row[i]? = some s ∧ d = .tup [.str [c], .int (s : Nat)] := by
  unfold zD at e
  rw [List.getElem?_zipWith] at e
  simp only [List.getElem?_map] at e
  cases q1 : t[i]? with
  | none => rw [q1] at e; cases e
  | some c =>
    cases q2 : row[i]? with
    | none => rw [q1, q2] at e; cases e
    | some s => rw [q1, q2] at e; cases e; exact ⟨c, s, rfl, rfl, rfl⟩
def zP (p : Nat × Nat) : D := .tup [.str [p.1], nD p.2]
theorem zD_eq : ∀ {t row : List Nat}, zD t row = (t.zip row).map zP
  | [], _ => rfl
  | _ :: _, [] => rfl
  | c :: t, s :: row => by
    have := zD_eq (t := t) (row := row)
    unfold zD at *
    simp [this, zP]
theorem intsFrom_succ {lo : Int} {n : Nat} : intsFrom lo (n + 1) = .int lo :: intsFrom (lo + 1) n := by
  unfold intsFrom
  rw [List.range_succ_eq_map, List.map_cons, List.map_map]
  congr 1
  · simp
  · refine List.map_congr_left fun i _ => ?_
    show D.int _ = D.int _
    congr 1
    simp only [Nat.succ_eq_add_one, Int.natCast_add, Int.natCast_one]
    omega
@[simp] theorem ap_msBreak {env : EV} {h : IH} : msBreak env h = .bk env h := rfl
@[simp] theorem ap_msCont {env : EV} {h : IH} : msCont env h = .ct env h := rfl
@[simp] theorem ap_msRetN {env : EV} {h : IH} : msRetN env h = .rt .non h := rfl
end NR

set_option Elab.async false
set_option linter.all false
set_option maxRecDepth 100000
/-! Lists compared by < -/
namespace NR
open PySem PySem.Spec PyProof.Rows L2
def rLtL (K : PySem.W.Frag) : R2 := fun x y H Q => ∃ d e, Dp K H x d ∧ Dp K H y e ∧ PySem.W.alike d e = true ∧ d ≠ .none ∧ d.depth ≤ 50 ∧ Q (.bl (PySem.W.dataLt d e)) H
theorem op_ltL {X : Cx} (hu : X.A.units + 64 < cLine) : OpR X (compareOp .Lt) (rLtL X.K) := by
  intro pins s σ H x y v u Q I rx ry h
  obtain ⟨d, e, hd, he, al, dn, dd, q⟩ := h
  obtain ⟨as, r1⟩ := Dp.reads I d x v hd rx
  obtain ⟨bs, r2⟩ := Dp.reads I e y u he ry
  exact PySem.W.lt_data r1 r2 al dn (by omega) ⟨.bl _, H, I, rfl, q⟩
def dLtL : D → D → IH → R D := fun x y h => match D.py h 50 x, D.py h 50 y with
  | some (.list a), some (.list b) => if PySem.W.alike (.list a) (.list b) = true then .ok (.bl (PySem.W.dataLt (.list a) (.list b))) h else .no
  | _, _ => .no
theorem dLtL_ok {X : Cx} {G : Cf} (hK : X.K = G.K) : OpS G (rLtL X.K) dLtL := by
  intro et H h x y v w W Q rx ry R p
  unfold dLtL at p
  split at p
  · rename_i d1 d2 e1 e2
    split at p
    · rename_i al
      obtain ⟨a1, a2, a3⟩ := py_ok R 50 x v _ e1 rx
      obtain ⟨b1, b2, b3⟩ := py_ok R 50 y w _ e2 ry
      rw [hK]
      exact ⟨_, _, a1, b1, al, by simp, a3, p.here R _ (by simp)⟩
    · exact p.elim
  · exact p.elim
theorem lt_toks : ∀ (ns ms : List Int), PyProof.Rows.lexLt PyProof.Rows.itemOrd (PySem.W.keyToksAll (ns.map PyData.int)) (PySem.W.keyToksAll (ms.map PyData.int)) = HT.lexLt ns ms
  | [], [] => rfl
  | [], m :: ms => rfl
  | n :: ns, [] => rfl
  | n :: ns, m :: ms => by
    rw [List.map_cons, List.map_cons, PySem.W.keyToksAll, PySem.W.keyToksAll, PyProof.Rows.lex_self, PySem.W.keyToks, PySem.W.keyToks]
    show PyProof.Rows.lexLt PyProof.Rows.itemOrd (.inl n :: _) (.inl m :: _) = _
    unfold HT.lexLt
    by_cases e : n = m
    · subst e
      rw [PyProof.Rows.lex_self, if_pos rfl]
      exact lt_toks ns ms
    · rw [if_neg e]
      exact PyProof.Rows.lex_diff (O := PyProof.Rows.itemOrd) (x := Sum.inl n) (y := Sum.inl m) (by intro z; injection z with z; exact e z)
theorem alike_ints : ∀ (ns ms : List Int), PySem.W.alikeAll (ns.map PyData.int) (ms.map PyData.int) = true
  | [], _ => by simp [PySem.W.alikeAll]
  | n :: ns, [] => by simp [PySem.W.alikeAll]
  | n :: ns, m :: ms => by simp [PySem.W.alikeAll, PySem.W.alike, alike_ints ns ms]
theorem py_ints {h : IH} {k : Nat} : ∀ (ns : List Int), allM (D.py h (k + 1)) (ns.map D.int) = some (ns.map PyData.int)
  | [] => rfl
  | n :: ns => by
    rw [List.map_cons, allM, py_ints ns]
    rfl
theorem dLtL_ints {ns ms : List Int} {h : IH} : dLtL (.fl (ns.map D.int)) (.fl (ms.map D.int)) h = .ok (.bl (HT.lexLt ns ms)) h := by
  have e1 : ∀ xs : List Int, D.py h 50 (.fl (xs.map D.int)) = some (.list (xs.map PyData.int)) := fun xs => by
    show (allM (D.py h 49) (xs.map D.int)).map PyData.list = _
    rw [py_ints (k := 48)]
    rfl
  unfold dLtL
  rw [e1, e1]
  dsimp only
  have al : PySem.W.alike (.list (ns.map PyData.int)) (.list (ms.map PyData.int)) = true := by
    unfold PySem.W.alike
    exact alike_ints ns ms
  rw [if_pos al]
  unfold PySem.W.dataLt
  rw [PySem.W.keyToks, PySem.W.keyToks, lt_toks]
end NR

set_option Elab.async false
set_option linter.all false
set_option maxRecDepth 100000
/-! rfind and split of one sign; the place of a datum in a list. -/
namespace NR
open PySem PySem.Spec PyProof.Rows L2
def lstI (c : Nat) : List Nat → Option Nat
  | [] => none
  | d :: s => match lstI c s with
    | some i => some (i + 1)
    | none => if d = c then some 0 else none
theorem lstI_none {c : Nat} : ∀ {s : List Nat}, lstI c s = none ↔ ∀ k : Nat, s[k]? ≠ some c
  | [] => by simp [lstI]
  | d :: s => by
    unfold lstI
    constructor
    · intro h k
      cases e : lstI c s with
      | some i => rw [e] at h; cases h
      | none =>
        rw [e] at h
        by_cases q : d = c
        · simp [q] at h
        · cases k with
          | zero => simpa using q
          | succ k => simpa using lstI_none.mp e k
    · intro h
      have : lstI c s = none := lstI_none.mpr fun k => by simpa using h (k + 1)
      rw [this]
      have := h 0
      simp at this
      simp [this]
theorem lstI_some {c : Nat} : ∀ {s : List Nat} {i : Nat}, s[i]? = some c → (∀ k : Nat, i < k → s[k]? ≠ some c) → lstI c s = some i
  | [], i, h, _ => by simp at h
  | d :: s, 0, h, n => by
    have : lstI c s = none := lstI_none.mpr fun k => by simpa using n (k + 1) (by omega)
    unfold lstI
    rw [this]
    simp at h
    simp [h]
  | d :: s, i + 1, h, n => by
    have := lstI_some (s := s) (i := i) (by simpa using h) fun k hk => by simpa using n (k + 1) (by omega)
    unfold lstI
    rw [this]
def rfI (c : Nat) (s : List Nat) : Int := match lstI c s with
  | some i => (i : Int)
  | none => -1
open Builtin.Str StrLaws in
theorem rfind_one (s : List Nat) (c : Nat) : Txt.rfind (strV s) (strV [c]) = rfI c s := by
  have at_ : ∀ i, At (strV s) (strV [c]) (strV s).length i ↔ s[i]? = some c := fun i => by
    have := subAt_one (strV s) c i
    simpa [strV, At] using this
  unfold Txt.rfind rfI
  rcases last_spec (strV s) (strV [c]) with ⟨h1, h2⟩ | ⟨i, h1, h2, h3⟩
  · rw [h1, lstI_none.mpr fun k z => h2 k ((at_ k).mpr z)]
  · rw [h1, lstI_some ((at_ i).mp h2) fun k hk z => h3 k hk ((at_ k).mpr z)]
/-- the parts between -/
def spl1 (c : Nat) : List Nat → List (List Nat)
  | [] => [[]]
  | d :: s => if d = c then [] :: spl1 c s else match spl1 c s with
    | w :: r => (d :: w) :: r
    | [] => [[d]]
theorem spl1_ne (c : Nat) : ∀ s, ∃ w r, spl1 c s = w :: r
  | [] => ⟨[], [], rfl⟩
  | d :: s => by
    obtain ⟨w, r, e⟩ := spl1_ne c s
    unfold spl1
    rw [e]
    by_cases q : d = c
    · exact ⟨[], w :: r, by simp [q]⟩
    · exact ⟨d :: w, r, by simp [q]⟩
def fRfind : D → List D → IH → R D
  | .str s, [.str [c]], h => .ok (.int (rfI c s)) h
  | _, _, _ => .no
def fSplit : D → List D → IH → R D
  | .str s, [.str [c]], h => if c < 256 ∧ s.length ≤ 1000000 then .ok (.ref h.length) (h ++ [.lst ((spl1 c s).map D.str)]) else .no
  | _, _, _ => .no
def fIndexD : D → List D → IH → R D
  | x, [y], h => match D.py h 50 x, D.py h 49 y with
    | some (.list ds), some d => if SeqAt.shaped (.list ds) = true ∧ SeqAt.shaped d = true then (match ds.findIdx? (fun z => PyData.eqv z d) with
      | some j => .ok (.int (j : Nat)) h
      | none => .no) else .no
    | _, _ => .no
  | _, _, _ => .no
theorem spl_spl1 (c : Nat) : ∀ (s acc : List Nat), TL.spl [c] 0 acc s = match spl1 c s with
    | w :: r => (acc ++ w) :: r
    | [] => [acc]
  | [], acc => by simp [TL.spl, spl1]
  | d :: s, acc => by
    obtain ⟨w, r, e⟩ := spl1_ne c s
    unfold TL.spl spl1
    have pe : TL.pre [c] (d :: s) = decide (d = c) := by
      unfold TL.pre
      by_cases q : d = c <;> simp [q]
    rw [pe]
    by_cases q : d = c
    · rw [if_pos (by simpa using q), if_pos q]
      show acc :: TL.spl [c] 0 [] s = _
      rw [spl_spl1 c s [], e]
      simp
    · rw [if_neg (by simpa using q), if_neg q, spl_spl1 c s (acc ++ [d]), e]
      simp
theorem split_one (s : List Nat) (c : Nat) (hc : c < 256) : Txt.split (strV s) (strV [c]) = (spl1 c s).map strV := by
  apply TL.map_tl_inj
  rw [TL.split_spl (strV s) (strV [c]) (by simp [TL.tl, strV]) (TL.kind_ok (by simp [strV, hc]))]
  rw [List.map_map]
  have e1 : TL.tl (strV [c]) = [c] := rfl
  have e2 : TL.tl (strV s) = s := rfl
  rw [e1, e2, spl_spl1]
  obtain ⟨w, r, e⟩ := spl1_ne c s
  rw [e]
  have : (TL.tl ∘ strV) = id := by funext l; rfl
  rw [this, List.map_id]
  rfl
theorem units65 {k : Nat} {A : Around} (r : Room k A) : A.units + 65 < cLine := by have := r.un; have := r.units; unfold cLine at *; omega
section
variable {G : Cf}
theorem fRfind_ok : MethS G (fun x xs H Q => ∃ a b, x = .str a ∧ xs = [.str b] ∧ Q (.int (Txt.rfind a b)) H) fRfind := by
  intro et H h x v xs vs W Q rx rv R p
  unfold fRfind at p
  split at p
  · obtain ⟨w, rfl, r⟩ := list1 rv
    exact ⟨_, _, den_str.mp rx, by rw [den_str.mp r], p.here R _ (by rw [rfind_one]; simp)⟩
  · exact p.elim
theorem fSplit_ok : MethS G (fun x xs H Q => ∃ a b, x = .str a ∧ xs = [.str b] ∧ (b.length == 0) = false ∧ a.length + 2 ≤ sizeLine ∧ rNewStrs (Txt.split a b) H Q) fSplit := by
  intro et H h x v xs vs W Q rx rv R p
  unfold fSplit at p
  split at p
  · rename_i s c
    split at p
    · rename_i q
      obtain ⟨w, rfl, r⟩ := list1 rv
      refine ⟨_, _, den_str.mp rx, by rw [den_str.mp r], rfl, ?_, ?_⟩
      · rw [strV_length, sizeLine_eq]; omega
      · rw [split_one s c q.1]
        exact fun a ha => p.newL R DenL.ofStrs a ha
    · exact p.elim
  · exact p.elim
theorem fIndexD_ok : MethS G (rIndexD G.K) fIndexD := by
  intro et H h x v xs vs W Q rx rv R p
  unfold fIndexD at p
  split at p
  · rename_i y
    split at p
    · rename_i d1 d2 e1 e2
      split at p
      · rename_i q
        split at p
        · rename_i j ej
          obtain ⟨w, rfl, r⟩ := list1 rv
          obtain ⟨a1, a2, a3⟩ := py_ok R 50 x v _ e1 rx
          obtain ⟨b1, b2, b3⟩ := py_ok R 49 y w _ e2 r
          rw [List.findIdx?_eq_some_iff_getElem] at ej
          obtain ⟨hj, h1, h2⟩ := ej
          cases a1 with
          | lst hs ha =>
            exact ⟨_, w, d2, d1, j, d1[j], rfl, rfl, .lst hs ha, b1, q.1, q.2, List.getElem?_eq_getElem hj, h1, fun m z' hm hz => by
              obtain ⟨hm', ez⟩ := List.getElem?_eq_some_iff.mp hz
              subst ez
              simpa using h2 m hm, p.here R _ (by simp)⟩
        · exact p.elim
      · exact p.elim
    · exact p.elim
  · exact p.elim
end
theorem mt_w {X : Cx} {e : Expr} {w : TT} (h : PW X e w) : PT X e w := h.pt
section
open PySem.AutoSeq1 (wpAny_loadPart' sub_tuple_tuple sub_list_list sub_tuple_list sub_list_tuple idx_int)
open PySem.MeetsSeq PySem.MeetsSeq2 PySem.MeetsSeq3
theorem ext_tup (l b : Addr) (xs ys : Array Value) (n m : Nat) (dd : Option Addr) (sl : Array (Option Value)) (h0 : ¬(!xs.isEmpty && Builtin.List.listTooLong (xs.size + ys.size)) = true) (h1 : xs.size ≤ sizeLine) (h2 : xs.size + ys.size ≤ sizeLine + 1) :
    Meets (Builtin.«list.extend» ⟨[.ref l, .ref b], []⟩) (fun _ R s => s.heap.get? l = some { cls := .type "list", dict := none, data := .seq xs n, slots := #[] } ∧ s.heap.get? b = some { cls := .type "tuple", dict := dd, data := .seq ys m, slots := sl } ∧
      R (.ok (.ret Value.none)) { s with heap := s.heap.update l (Obj.mapSeq fun x => x ++ ys), toks := s.toks }) :=
  .of_wp fun prog w A R s h => by
    obtain ⟨hp, gl, ds, tk, os⟩ := s
    obtain ⟨hl, hb, h⟩ := h
    have t1 := PySem.AutoSeq1.idx_int
    have t2 := PySem.AutoSeq1.sub_tuple_tuple
    have t3 := PySem.AutoSeq1.sub_list_list
    have t4 := PySem.AutoSeq1.sub_tuple_list
    have t5 := PySem.AutoSeq1.sub_list_tuple
    have hz' : (xs ++ ys).size ≤ sizeLine + 1 := by rw [Array.size_append]; exact h2
    wp_walk using (wpAny_updateSeq hl rfl (hz := h1) (_hz' := hz')), wpAny_loadPart' hl, wpAny_loadPart' hb
    exact ⟨_, rfl, h⟩
end
def rExtendT (K : PySem.W.Frag) : V → List V → Hp → VK → Prop := fun x vs H Q => ∃ l b xs zs, x = .ref l ∧ vs = [.ref b] ∧ H l = some (.lst xs) ∧ SqT K H b zs ∧ xs.length + zs.length ≤ sizeLine ∧ Q .non (upd H l (.lst (xs ++ zs)))
theorem mt_extendT {X : Cx} : MtM X "list.extend" (rExtendT X.K) := by
  intro pins s σ H x vs v us Q I rx rv h
  obtain ⟨l, b, xs, zs, rfl, rfl, hH, hB, hz, q⟩ := h
  cases rx
  obtain ⟨u, rfl, ru⟩ := rv.one
  cases ru
  obtain ⟨z, its, n, r, hl, e⟩ := I.lstM hH
  obtain ⟨its2, r2, ⟨⟨cls2, dd2, data2, sl2⟩, e2, hc2, n2, hd2⟩, _⟩ := I.tuple hB
  simp only at hc2 hd2
  subst hc2 hd2
  have hl2 := r2.length
  have k1 : its.toArray.size + its2.toArray.size ≤ sizeLine := by rw [List.size_toArray, List.size_toArray]; omega
  have k2 : ¬ (!its.toArray.isEmpty && Builtin.List.listTooLong (its.toArray.size + its2.toArray.size)) = true := by
    rw [notLongL k1, Bool.and_false]
    simp
  refine call_meets F.slot_list_extend ⟨_, e, rfl⟩ F.entry_list_extend (F.args_list_extend_2 _ _) (ext_tup l b its.toArray its2.toArray n n2 dd2 sl2 k2 (by rw [List.size_toArray]; omega) (by omega)) ⟨e, e2, ?_⟩
  refine ⟨.non, _, I.lset (its' := its ++ its2) hH e (by simp) (r.append r2) ?_, rfl, q⟩
  rw [List.length_append]
  omega
def fExtendT : D → List D → IH → R D
  | .ref n, [.tup ys], h => match h[n]? with
    | some (.lst xs) => if xs.length + ys.length ≤ 10000000 then .ok .non (h.set n (.lst (xs ++ ys))) else .no
    | _ => .no
  | _, _, _ => .no
theorem fExtendT_ok {G : Cf} : MethS G (rExtendT G.K) fExtendT := by
  intro et H h x v xs vs W Q rx rv R p
  unfold fExtendT at p
  split at p
  · split at p
    · split at p
      · rename_i n ys _ xs' hx c
        obtain ⟨w, rfl, h1⟩ := list1 rv
        obtain ⟨a, us, h2, rfl, h3, h4⟩ := den_list R hx rx
        obtain ⟨b, ws, rfl, k3, k4⟩ := den_tup.mp h1
        refine ⟨a, b, us, ws, rfl, rfl, h3, k3.sq, sz (by rw [h4.len, k4.len]; exact c), ?_⟩
        have ex : Ext H (upd H a (.lst (us ++ ws))) := Ext.mut h3 True.intro
        exact p et _ List.prefix_rfl ex (R.set hx h2 rfl h3 True.intro ⟨_, upd_same, (h4.app k4).mono List.prefix_rfl ex⟩) _ (by simp)
      · exact p.elim
    · exact p.elim
  · exact p.elim
end NR

set_option Elab.async false
set_option linter.all false
set_option maxRecDepth 100000
set_option maxHeartbeats 4000000
namespace NR
open PySem PySem.Spec PyProof.Rows L2
/-! ### isinstance of several -/
def isTs (h : IH) (x : D) : List String → Option Bool
  | [] => some false
  | T :: r => match isT T h x with
    | some true => some true
    | some false => isTs h x r
    | none => none
def mIsT (Ts : List String) (m : ME) : ME := fun env h => (m env h).bind fun x h1 => match isTs h1 x Ts with
  | some b => .ok (.bl b) h1
  | none => .no
theorem tyK_ok {G : Cf} {et : List Addr} {H : Hp} {h : IH} (R : HRel G et h H) {x : D} {v : V} (r : Den G et H x v) : (∃ t, TyX G.K H v t ∧ ∀ (T : String) (b : Bool), isT T h x = some b → PySem.W.kitOne G.K t (.type T) = some b) ∨ ∀ T, isT T h x = none := by
  cases x with
  | non => rw [den_non.mp r]; exact .inl ⟨_, .base .non, fun _ _ e => kit_ty e⟩
  | bl _ => rw [den_bl.mp r]; exact .inl ⟨_, .base (.bl _), fun _ _ e => kit_ty e⟩
  | int _ => rw [den_int.mp r]; exact .inl ⟨_, .base (.int _), fun _ _ e => kit_ty e⟩
  | str _ => rw [den_str.mp r]; exact .inl ⟨_, .base (.str _), fun _ _ e => kit_ty e⟩
  | tup l =>
    obtain ⟨a, vs, rfl, h1, _⟩ := den_tup.mp r
    exact .inl ⟨_, sqT_ty (TpT.sq h1), fun _ _ e => kit_ty e⟩
  | ref n =>
    obtain ⟨a, h1, rfl⟩ := den_ref.mp r
    obtain ⟨c, hc, ok⟩ := R.cellAt h1
    cases c with
    | lst xs =>
      obtain ⟨vs, h2, _⟩ := ok
      exact .inl ⟨_, .base (.lst h2), fun T b e => kit_ty (by simpa only [isT, hc] using e)⟩
    | frz xs =>
      obtain ⟨vs, h2, _⟩ := ok
      exact .inl ⟨_, frzL_ty h2, fun T b e => kit_ty (by simpa only [isT, hc] using e)⟩
    | dk xs =>
      obtain ⟨vs, h2, _⟩ := ok
      exact .inl ⟨_, .base (.dK h2), fun T b e => kit_ty (by simpa only [isT, hc] using e)⟩
    | dt xs => exact .inr fun T => by simp only [isT, hc]
    | ins c fs => exact .inr fun T => by simp only [isT, hc]
  | fl l =>
    obtain ⟨a, vs, rfl, h1, _⟩ := den_fl.mp r
    exact .inl ⟨_, frzL_ty (K := G.K) h1.frz, fun _ _ e => kit_ty e⟩
  | fd ks l =>
    obtain ⟨a, ws, rfl, ⟨o, h1⟩, _⟩ := den_fd.mp r
    exact .inl ⟨_, .fDict h1, fun _ _ e => kit_ty e⟩
  | exc a => exact .inr fun T => rfl
theorem kits_of {K : PySem.W.Frag} {h : IH} {x : D} {t : Value} (k : ∀ (T : String) (b : Bool), isT T h x = some b → PySem.W.kitOne K t (.type T) = some b) : ∀ {Ts : List String} {b : Bool}, isTs h x Ts = some b → PySem.W.kitAny K t (Ts.map Value.type) = some b
  | [], b, e => by rw [← e]; rfl
  | T :: r, b, e => by
    unfold isTs at e
    rw [List.map_cons]
    cases h1 : isT T h x with
    | none => rw [h1] at e; cases e
    | some c =>
      rw [h1] at e
      cases c with
      | true => cases e; exact kitAny_cons (k T true h1) (fun z => by cases z) (fun _ => rfl)
      | false => exact kitAny_cons (k T false h1) (fun _ => kits_of k e) (fun z => by cases z)
inductive TNs (X : Cx) : List String → List Expr → Prop
  | nil : TNs X [] []
  | cons {y : Str} {T : String} {Ts : List String} {es : List Expr} {p : Pos} (hg : Gl X y) (hm : X.mg y = none) (hv : bootBuiltins y = some (.type T)) (hn : y ≠ "__name__") (hd : (y == ("__debug__" : Str)) = false) (h : TNs X Ts es) : TNs X (T :: Ts) (.Name y p :: es)
theorem TNs.pa {X : Cx} : ∀ {Ts : List String} {es : List Expr}, TNs X Ts es → PA X es (fun _ H Q => Q (Ts.map V.ty) H)
  | [], _, .nil => pa_nil
  | T :: Ts, _, .cons (y := y) (es := es) (p := p) hg hm hv hn hd h => pa_cons (pe_bltn (v := .ty T) hg hm hv rfl hn hd) h.pa rfl
theorem paired_tys : ∀ Ts : List String, Paired ClsV (Ts.map V.ty) (Ts.map Value.type)
  | [] => .nil
  | T :: Ts => .cons (.ty T) (paired_tys Ts)
theorem me_isT {X : Cx} {G : Cf} {W : WX} {a : Expr} {ma : ME} {pos p p2 : Pos} {T : String} {Ts : List String} {es : List Expr} {k : Nat} (hK : X.K = G.K) (ha : PE X a (tE G W ma)) (hm : X.mg "isinstance" = none) (hy : TNs X (T :: Ts) es) (hl : (T :: Ts).length ≤ 1000 := by decide) (hv : bootBuiltins "isinstance" = some (.builtin "isinstance") := by decide +kernel) (hg : Gl X "isinstance" := by rfl)
    (hs1 : starEach [a, .Tuple es k p2] X.env = (false, eval a X.env) :: starEach [.Tuple es k p2] X.env := by rfl) (hs2 : starEach [.Tuple es k p2] X.env = (false, eval (.Tuple es k p2) X.env) :: starEach [] X.env := by rfl) (hpl : (backTo pos (starEach [.Tuple es k p2] X.env)).any (·.1) = false := by rfl) :
    PE X (.Call (.Name "isinstance" p) [a, .Tuple es k p2] [] pos) (tE G W (mIsT (T :: Ts) ma)) :=
  PE.imp (pe_callB call_isiT hg hm hv (pa_cons ha (pa_cons (pe_tup hy.pa) pa_nil hs2) hs1) (by decide) (by decide) hs1 hpl) fun σ H Q ⟨et, env, h, hE, hH, hP⟩ => by
    refine ⟨et, env, h, hE, hH, (Pst.of_bind hP).imp fun et1 H1 h1 x p e hr q v hv => ?_⟩
    split at q
    · rename_i b hb
      refine ⟨sz (by rw [List.length_map]; exact Nat.le_trans hl (by omega)), fun tp htp => ?_⟩
      have e1 := Ext.new (o := .tup ((T :: Ts).map V.ty)) htp
      have hv2 := hv.mono List.prefix_rfl e1
      have hr2 := hr.new (o := .tup ((T :: Ts).map V.ty)) htp
      rcases tyK_ok hr2 hv2 with ⟨t, h2, h3⟩ | h2
      · rw [hK]
        exact ⟨v, tp, _, t, _, b, rfl, upd_same, paired_tys (T :: Ts), h2, kits_of h3 hb, q et1 _ List.prefix_rfl e1 hr2 _ (by simp)⟩
      · unfold isTs at hb
        rw [h2 T] at hb
        cases hb
    · exact q.elim
/-! ### a chain of three comparisons -/
def tChain3 (r r' r2 : R2) (ta tb tc td : TE) : TE := fun σ H Q => ta σ H fun x H1 => tb σ H1 fun y H2 => r x y H2 fun z H3 => ∃ k, z = .bl k ∧ (if k = true then tc σ H3 fun w H4 => r' y w H4 fun u H5 => ∃ j, u = .bl j ∧ (if j = true then td σ H5 fun t H6 => r2 w t H6 Q else Q (.bl false) H5) else Q (.bl false) H3)
section
variable {X : Cx} {a b c d : Expr} {ta tb tc td : TE} {pos : Pos} {r r' r2 : R2}
theorem pe_chain3 {o1 o2 o3 : CmpOp} (h1 : OpR X (compareOp o1) r) (h2 : OpR X (compareOp o2) r') (h3 : OpR X (compareOp o3) r2) (ha : PE X a ta) (hb : PE X b tb) (hc : PE X c tc) (hd : PE X d td)
    (hm : lastMarks [o1, o2, o3] [b, c, d] = false := by with_unfolding_all rfl) : PE X (.Compare a [o1, o2, o3] [b, c, d] pos) (tChain3 r r' r2 ta tb tc td) := by
  refine ⟨fun pins s σ H Q I q => ?_⟩
  refine Compare_chain (thn (ha.run pins s σ H _ I q) fun v s1 ⟨x, H1, I1, r1, q1⟩ => ?_) hm
  refine chain_link (thn (hb.run pins s1 σ H1 _ I1 q1) fun u s2 ⟨y, H2, I2, rr2, q2⟩ => ?_)
  refine thn (h1 pins s2 σ H2 x y v u _ I2 r1 rr2 q2) fun z s3 ⟨zz, H3, I3, r3, k, e, q3⟩ => ?_
  subst e
  cases r3
  refine wpAny_truthy_bool ?_
  cases k with
  | false => exact ite_ff ⟨.bl false, H3, I3, rfl, q3⟩
  | true =>
    refine ite_tt ?_
    refine chain_link (thn (hc.run pins s3 σ H3 _ I3 q3) fun w s4 ⟨ww, H4, I4, r4, q4⟩ => ?_)
    refine thn (h2 pins s4 σ H4 y ww u w _ I4 rr2 r4 q4) fun z2 s5 ⟨zz2, H5, I5, r5, k2, e2, q5⟩ => ?_
    subst e2
    cases r5
    refine wpAny_truthy_bool ?_
    cases k2 with
    | false => exact ite_ff ⟨.bl false, H5, I5, rfl, q5⟩
    | true => exact ite_tt (chain_last (thn (hd.run pins s5 σ H5 _ I5 q5) fun t s6 ⟨tt, H6, I6, r6, q6⟩ => h3 pins s6 σ H6 ww tt w t Q I6 r4 r6 q6))
end
def mChain3 (f g f3 : D → D → IH → R D) (a b c d : ME) : ME := fun env h => (a env h).bind fun x h1 => (b env h1).bind fun y h2 => (f x y h2).bind fun z h3 => match z with
  | .bl true => (c env h3).bind fun w h4 => (g y w h4).bind fun u h5 => match u with
    | .bl true => (d env h5).bind fun t h6 => f3 w t h6
    | .bl false => .ok (.bl false) h5
    | _ => .no
  | .bl false => .ok (.bl false) h3
  | _ => .no
section
variable {X : Cx} {G : Cf} {W : WX} {a b c d e : Expr} {ma mb mc md : ME} {pos : Pos} {r r' r2 : R2} {f g f3 : D → D → IH → R D}
theorem me_chain3 {o1 o2 o3 : CmpOp} (ho : OpR X (compareOp o1) r) (hs : OpS G r f) (ho' : OpR X (compareOp o2) r') (hs' : OpS G r' g) (ho2 : OpR X (compareOp o3) r2) (hs2 : OpS G r2 f3) (ha : PE X a (tE G W ma)) (hb : PE X b (tE G W mb)) (hc : PE X c (tE G W mc)) (hd : PE X d (tE G W md)) (hm : lastMarks [o1, o2, o3] [b, c, d] = false := by rfl) :
    PE X (.Compare a [o1, o2, o3] [b, c, d] pos) (tE G W (mChain3 f g f3 ma mb mc md)) := PE.imp (pe_chain3 ho ho' ho2 ha hb hc hd hm) fun σ H Q ⟨et, env, h, hE, hH, hP⟩ => by
  refine ⟨et, env, h, hE, hH, (Pst.of_bind hP).imp fun et1 H1 h1 x p e hr q v hv => ?_⟩
  refine ⟨et1, env, h1, hE.mono p e, hr, (Pst.of_bind q).imp fun et2 H2 h2 y p2 e2 hr2 q2 w hw => ?_⟩
  refine hs et2 H2 h2 x y v w _ _ (hv.mono p2 e2) hw hr2 ((Pst.of_bind q2).imp fun et3 H3 h3 z p3 e3 hr3 q3 vz hz => ?_)
  cases z with
  | bl k =>
    refine ⟨k, den_bl.mp hz, ?_⟩
    cases k with
    | true =>
      rw [if_pos rfl]
      refine ⟨et3, env, h3, ((hE.mono p e).mono p2 e2).mono p3 e3, hr3, (Pst.of_bind q3).imp fun et4 H4 h4 u p4 e4 hr4 q4 vu hu => ?_⟩
      refine hs' et4 H4 h4 y u w vu _ _ ((hw.mono p3 e3).mono p4 e4) hu hr4 ((Pst.of_bind q4).imp fun et5 H5 h5 z2 p5 e5 hr5 q5 vz2 hz2 => ?_)
      cases z2 with
      | bl k2 =>
        refine ⟨k2, den_bl.mp hz2, ?_⟩
        cases k2 with
        | true =>
          rw [if_pos rfl]
          refine ⟨et5, env, h5, ((((hE.mono p e).mono p2 e2).mono p3 e3).mono p4 e4).mono p5 e5, hr5, (Pst.of_bind q5).imp fun et6 H6 h6 t p6 e6 hr6 q6 vt ht => ?_⟩
          exact hs2 et6 H6 h6 u t vu vt _ Q ((hu.mono p5 e5).mono p6 e6) ht hr6 q6
        | false =>
          rw [if_neg Bool.false_ne_true]
          exact q5.here hr5 _ (by simp)
      | _ => exact q5.elim
    | false =>
      rw [if_neg Bool.false_ne_true]
      exact q3.here hr3 _ (by simp)
  | _ => exact q3.elim
theorem mt_chain3 {o1 o2 o3 : CmpOp} (ho : OpR X (compareOp o1) r) (hs : OpS G r f) (ho' : OpR X (compareOp o2) r') (hs' : OpS G r' g) (ho2 : OpR X (compareOp o3) r2) (hs2 : OpS G r2 f3) (ha : PE X a (tE G W ma)) (hb : PE X b (tE G W mb)) (hc : PE X c (tE G W mc)) (hd : PE X d (tE G W md)) (hm : lastMarks [o1, o2, o3] [b, c, d] = false := by rfl)
    (hv : ∀ whole, isTrue (.Compare a [o1, o2, o3] [b, c, d] pos) X.env whole = (do let v ← whole; standAt pos; holding [v] (truthy v)) := by intro _; rfl) (hK : X.K = G.K) :
    PT X (.Compare a [o1, o2, o3] [b, c, d] pos) (tT G W (mTr (mChain3 f g f3 ma mb mc md))) := mt_val hK (me_chain3 ho hs ho' hs' ho2 hs2 ha hb hc hd hm) hv
end
/-! ### reversed ranges -/
def iRevR1 (m : MA) : MI := fun env h => (m env h).bind fun xs h1 => match xs with
  | [.int j] => if -10000000 ≤ j ∧ j ≤ 10000000 then .ok (.st (intsDown (j - 1) j.toNat)) h1 else .no
  | _ => .no
def iRevR2 (m : MA) : MI := fun env h => (m env h).bind fun xs h1 => match xs with
  | [.int i, .int j] => if -10000000 ≤ i ∧ i ≤ 10000000 ∧ -10000000 ≤ j ∧ j ≤ 10000000 then .ok (.st (intsDown (j - 1) (j - i).toNat)) h1 else .no
  | _ => .no
section
variable {X : Cx} {G : Cf} {W : WX} {e tg a b : Expr} {me ma mb : ME} {pos p p2 q : Pos}
theorem jrel_downE {et : List Addr} {H : Hp} {hi hi' : Int} {n : Nat} (e : 0 < n → hi = hi') : JRel G et H (.st (intsDown hi n)) (Itc hi' (-1) n) := by
  cases n with
  | zero =>
    refine jrel_st fun et1 H1 h1 p ex R i => ?_
    rw [show (intsDown hi 0)[i]? = none from rfl]
    exact Nat.zero_le i
  | succ n => rw [e (by omega)]; exact jrel_down
theorem mi_revR1 (ha : PE X a (tE G W ma)) (hm : X.mg "reversed" = none) (hm2 : X.mg "range" = none) (hg : Gl X "reversed" := by rfl) (hg2 : Gl X "range" := by rfl) (hs : starEach [.Call (.Name "range" p2) [a] [] q] X.env = (false, eval (.Call (.Name "range" p2) [a] [] q) X.env) :: starEach [] X.env := by rfl) (hs3 : starEach [a] X.env = (false, eval a X.env) :: starEach [] X.env := by rfl) :
    PI X tg (.Call (.Name "reversed" p) [.Call (.Name "range" p2) [a] [] q] [] pos) (tI G W (iRevR1 (mCons ma mNil))) :=
  PI.imp (pi_revR hg hm (prg_1 hg2 hm2 ha hs3) hs) fun σ H K ⟨et, env, h, hE, hH, hP⟩ => by
    refine ⟨et, env, h, hE, hH, (Pst.of_bind (Pst.of_bind hP)).imp fun et1 H1 h1 x p e hr q v hv => ?_⟩
    simp only [mNil, R.bind] at q
    have q := Pst.here hr q
    cases x with
    | int j =>
      dsimp only at q
      split at q
      · rename_i c
        refine ⟨j, den_int.mp hv, by omega, by omega, by omega, by omega, q.here hr _ ?_⟩
        rw [show (j - 0).toNat = j.toNat by omega]
        exact jrel_downE fun h => by omega
      · exact q.elim
    | _ => exact q.elim
end
/-! ### max, min of a tuple -/
section
variable {prog : Program} {w : World} {A : Around} {E : Value → Shared → Prop} {s : Shared} {l : Addr} {its : List Value} {ns : List Int}
theorem tup_kept {h' : Heap} (hk : ∀ b o, b ∉ [s.heap.objs.size] → (s.heap.push { cls := .type "tuple_iterator", data := .fields #[.ref l, .int 0 0] }).get? b = some o → h'.get? b = some o) (b : Addr) (o : Obj) (e : s.heap.get? b = some o) : h'.get? b = some o := by
  refine hk b o (fun hm => ?_) (Heap.get?_push_of_some _ e)
  have := List.mem_singleton.mp hm
  subst this
  exact Nat.lt_irrefl _ (Heap.lt_size e)
theorem tup_fp (lt : l < s.heap.objs.size) (o : Obj) : ∀ b ∈ [s.heap.objs.size, l], b < (s.heap.push o).objs.size := fun b hb => by
  rw [Heap.size_push]
  rcases List.mem_cons.mp hb with rfl | hb
  · exact Nat.lt_succ_self _
  · rw [List.mem_singleton.mp hb]
    exact Nat.lt_succ_of_lt lt
theorem tup_val (hi : IntsAre its ns) (i : Nat) (v : Value) (h : its.toArray[i]? = some v) : ∃ t, v = .int (ns.getD i 0) t := PyProof.Rows.IntsAre.int_at hi i v (by simpa using h)
theorem tup_best {k : Nat} {M : Int} (hk : k < ns.length) (e : ns.getD k 0 = M) : M ∈ ns := by
  rw [List.getD_eq_getElem?_getD, List.getElem?_eq_getElem hk] at e
  rw [← e]
  exact List.getElem_mem hk
theorem max_tup {Q : Value → Shared → Prop} (hh : A.handled = none) (hl : s.heap.IsTuple l its.toArray) (hi : IntsAre its ns) (hne : 0 < ns.length)
    (h : ∀ h' tk M t', (∀ b o, s.heap.get? b = some o → h'.get? b = some o) → M ∈ ns → (∀ a, a ∈ ns → a ≤ M) → Q (.int M t') { s with heap := h', toks := tk }) : wpAny (model prog w) A (call (.builtin "max") [.ref l]) Q E s := by
  have lt : l < s.heap.objs.size := by obtain ⟨_, e, _⟩ := hl; exact Heap.lt_size e
  have hz : its.length = ns.length := IntsAre.length hi
  refine call_max_walk (wpAny_pyIter_tuple hl ?_)
  refine ⟨_, _, _, _, _, _, _, rfl, Walks.tuple (A := A.in1) hh _ l (Nat.ne_of_lt lt) its.toArray, ⟨⟨_, Heap.get?_push_size _ rfl, rfl, rfl⟩, hl.push _⟩, tup_fp lt _, by simpa [hz] using hne, CmpOf.ints_gt (fun i => ns.getD i 0) (tup_val hi), fun v h' tk hP hk => ?_⟩
  obtain ⟨h1, h2⟩ := argBest_gt (fun i => ns.getD i 0) (its.toArray.size - 1)
  obtain ⟨t, rfl⟩ := tup_val hi _ _ hP
  rw [List.size_toArray, hz] at h1 h2
  refine h h' tk _ t (tup_kept hk) (tup_best (by rw [List.size_toArray, hz]; omega) rfl) fun a ha => ?_
  obtain ⟨j, hj⟩ := List.mem_iff_getElem?.mp ha
  have hj2 := (List.getElem?_eq_some_iff.mp hj).1
  have := h2 j (by omega)
  simp only [List.getD_eq_getElem?_getD, hj, Option.getD_some] at this
  simpa [List.getD_eq_getElem?_getD, hz] using this
theorem min_tup {Q : Value → Shared → Prop} (hh : A.handled = none) (hl : s.heap.IsTuple l its.toArray) (hi : IntsAre its ns) (hne : 0 < ns.length)
    (h : ∀ h' tk M t', (∀ b o, s.heap.get? b = some o → h'.get? b = some o) → M ∈ ns → (∀ a, a ∈ ns → M ≤ a) → Q (.int M t') { s with heap := h', toks := tk }) : wpAny (model prog w) A (call (.builtin "min") [.ref l]) Q E s := by
  have lt : l < s.heap.objs.size := by obtain ⟨_, e, _⟩ := hl; exact Heap.lt_size e
  have hz : its.length = ns.length := IntsAre.length hi
  refine call_min_walk (wpAny_pyIter_tuple hl ?_)
  refine ⟨_, _, _, _, _, _, _, rfl, Walks.tuple (A := A.in1) hh _ l (Nat.ne_of_lt lt) its.toArray, ⟨⟨_, Heap.get?_push_size _ rfl, rfl, rfl⟩, hl.push _⟩, tup_fp lt _, by simpa [hz] using hne, CmpOf.ints_lt (fun i => ns.getD i 0) (tup_val hi), fun v h' tk hP hk => ?_⟩
  obtain ⟨h1, h2⟩ := argBest_lt (fun i => ns.getD i 0) (its.toArray.size - 1)
  obtain ⟨t, rfl⟩ := tup_val hi _ _ hP
  rw [List.size_toArray, hz] at h1 h2
  refine h h' tk _ t (tup_kept hk) (tup_best (by rw [List.size_toArray, hz]; omega) rfl) fun a ha => ?_
  obtain ⟨j, hj⟩ := List.mem_iff_getElem?.mp ha
  have hj2 := (List.getElem?_eq_some_iff.mp hj).1
  have := h2 j (by omega)
  simp only [List.getD_eq_getElem?_getD, hj, Option.getD_some] at this
  simpa [List.getD_eq_getElem?_getD, hz] using this
end
def rMaxT (K : PySem.W.Frag) : List V → Hp → VK → Prop := fun vs H Q => ∃ (a : Addr) (ns : List Int), vs = [V.ref a] ∧ (SqL K H a (ns.map V.int) ∨ SqT K H a (ns.map V.int)) ∧ 0 < ns.length ∧ ∀ m, m ∈ ns → (∀ y, y ∈ ns → y ≤ m) → Q (.int m) H
def rMinT (K : PySem.W.Frag) : List V → Hp → VK → Prop := fun vs H Q => ∃ (a : Addr) (ns : List Int), vs = [V.ref a] ∧ (SqL K H a (ns.map V.int) ∨ SqT K H a (ns.map V.int)) ∧ 0 < ns.length ∧ ∀ m, m ∈ ns → (∀ y, y ∈ ns → m ≤ y) → Q (.int m) H
section
variable {X : Cx} {G : Cf}
theorem cr_maxT (hc : X.calm = true) : CallR X (.builtin "max") (rMaxT X.K) := by
  intro pins s σ H vs us Q I r h
  obtain ⟨a, ns, rfl, hs | hs, hne, q⟩ := h
  · exact cr_max hc pins s σ H _ us Q I r ⟨a, ns, rfl, hs, hne, q⟩
  · obtain ⟨its, rv, ht, _⟩ := I.tuple hs
    rw [Vals.ref1 r]
    exact max_tup (I.ok.hd hc) ht rv.ints hne fun h' tk m t' hk h1 h2 => ⟨.int _, H, I.kept hk, ⟨_, rfl⟩, q m h1 h2⟩
theorem cr_minT (hc : X.calm = true) : CallR X (.builtin "min") (rMinT X.K) := by
  intro pins s σ H vs us Q I r h
  obtain ⟨a, ns, rfl, hs | hs, hne, q⟩ := h
  · exact cr_min hc pins s σ H _ us Q I r ⟨a, ns, rfl, hs, hne, q⟩
  · obtain ⟨its, rv, ht, _⟩ := I.tuple hs
    rw [Vals.ref1 r]
    exact min_tup (I.ok.hd hc) ht rv.ints hne fun h' tk m t' hk h1 h2 => ⟨.int _, H, I.kept hk, ⟨_, rfl⟩, q m h1 h2⟩
def bMax1T : List D → IH → R D
  | [x], h => match (seqOf h x).bind (allM D.int?) with
    | some ns => if 0 < ns.length then .ok (.int (imax ns)) h else .no
    | none => .no
  | _, _ => .no
def bMin1T : List D → IH → R D
  | [x], h => match (seqOf h x).bind (allM D.int?) with
    | some ns => if 0 < ns.length then .ok (.int (imin ns)) h else .no
    | none => .no
  | _, _ => .no
theorem sq_ints {et : List Addr} {H : Hp} {h : IH} {x : D} {v : V} {ns : List Int} (R : HRel G et h H) (e : (seqOf h x).bind (allM D.int?) = some ns) (r : Den G et H x v) : ∃ a, v = .ref a ∧ (SqL G.K H a (ns.map V.int) ∨ SqT G.K H a (ns.map V.int)) := by
  cases hq : seqOf h x with
  | none => rw [hq] at e; cases e
  | some ds =>
    rw [hq] at e
    obtain ⟨a, vs, rfl, h1, h2⟩ := seq_ok R hq r
    have := allM_ints (ds := ds) e
    subst this
    rw [h2.ints] at h1
    exact ⟨a, rfl, h1⟩
theorem bMax1T_ok : CallS G (rMaxT G.K) bMax1T := by
  intro et H h xs vs W Q hv hr q
  unfold bMax1T at q
  split at q
  · obtain ⟨v, rfl, r⟩ := list1 hv
    split at q
    · rename_i ns e
      split at q
      · rename_i l
        obtain ⟨a, rfl, s⟩ := sq_ints hr e r
        refine ⟨a, ns, rfl, s, l, fun m m1 m2 => ?_⟩
        have em : m = imax ns := Int.le_antisymm (imax_le m1) (m2 _ (imax_mem l))
        rw [em]
        exact q.here hr _ (by simp)
      · exact q.elim
    · exact q.elim
  · exact q.elim
theorem bMin1T_ok : CallS G (rMinT G.K) bMin1T := by
  intro et H h xs vs W Q hv hr q
  unfold bMin1T at q
  split at q
  · obtain ⟨v, rfl, r⟩ := list1 hv
    split at q
    · rename_i ns e
      split at q
      · rename_i l
        obtain ⟨a, rfl, s⟩ := sq_ints hr e r
        refine ⟨a, ns, rfl, s, l, fun m m1 m2 => ?_⟩
        have em : m = imin ns := Int.le_antisymm (m2 _ (imin_mem l)) (imin_le m1)
        rw [em]
        exact q.here hr _ (by simp)
      · exact q.elim
    · exact q.elim
  · exact q.elim
end
end NR

set_option Elab.async false
set_option linter.all false
set_option maxRecDepth 100000
set_option maxHeartbeats 4000000
/-! Lists within tuples and lists, locked. -/
namespace NR
open PySem PySem.Spec PyProof.Rows L2
/-- some locks lead there -/
inductive Locks (P : Hp → Prop) : Hp → Prop
  | done {H : Hp} (h : P H) : Locks P H
  | lock {H : Hp} {a : Addr} {u : HO} (e : H a = some u) (m : Mut (some u)) (k : ∀ od, Locks P (upd H a (.frz od u))) : Locks P H
theorem Locks.bind {P Q : Hp → Prop} {H : Hp} (x : Locks P H) (k : ∀ H', P H' → Locks Q H') : Locks Q H := by
  induction x with
  | done h => exact k _ h
  | lock e m _ ih => exact .lock e m ih
theorem Locks.imp {P Q : Hp → Prop} {H : Hp} (x : Locks P H) (k : ∀ H', P H' → Q H') : Locks Q H := x.bind fun H' h => .done (k H' h)
theorem Locks.run {X : Cx} {P : Hp → Prop} {pins : List (Addr × Obj)} {σ : L2.St} {s : Shared} {H : Hp} (x : Locks P H) : Inv X pins σ H s → ∃ H', Inv X pins σ H' s ∧ P H' := by
  induction x with
  | done h => exact fun I => ⟨_, I, h⟩
  | lock e m _ ih =>
    intro I
    obtain ⟨od, I2⟩ := I.lock e m
    exact ih od I2
mutual
/-- the lists and dicts from cell number b on, locked -/
def dzD (b : Nat) : Nat → IH → D → Option (D × IH)
  | 0, _, _ => none
  | k + 1, h, .ref n => if b ≤ n then (match h[n]? with
    | some (.lst xs) => match dzL b k (h.set n (.frz xs)) xs with
      | some (ys, h1) => some (.fl ys, h1)
      | none => none
    | _ => none) else some (.ref n, h)
  | k + 1, h, .tup l => match dzL b k h l with
    | some (ys, h1) => some (.tup ys, h1)
    | none => none
  | _ + 1, h, .fl l => some (.fl l, h)
  | _ + 1, h, .fd ks l => some (.fd ks l, h)
  | _ + 1, h, .exc a => none
  | _ + 1, h, .non => some (.non, h)
  | _ + 1, h, .bl i => some (.bl i, h)
  | _ + 1, h, .int i => some (.int i, h)
  | _ + 1, h, .str i => some (.str i, h)
def dzL (b : Nat) : Nat → IH → List D → Option (List D × IH)
  | 0, _, _ => none
  | _ + 1, h, [] => some ([], h)
  | k + 1, h, d :: l => match dzD b k h d with
    | some (y, h1) => match dzL b k h1 l with
      | some (ys, h2) => some (y :: ys, h2)
      | none => none
    | none => none
end
section
variable {G : Cf} {et : List Addr}
theorem dz_ok (b : Nat) : ∀ (k : Nat), (∀ (h : IH) (H : Hp) (d d' : D) (h' : IH) (v : V), HRel G et h H → Den G et H d v → dzD b k h d = some (d', h') → Locks (fun H' => HRel G et h' H' ∧ Ext H H' ∧ Den G et H' d' v) H) ∧
    (∀ (h : IH) (H : Hp) (l l' : List D) (h' : IH) (vs : List V), HRel G et h H → DenL G et H l vs → dzL b k h l = some (l', h') → Locks (fun H' => HRel G et h' H' ∧ Ext H H' ∧ DenL G et H' l' vs) H)
  | 0 => ⟨fun _ _ _ _ _ _ _ _ e => by simp [dzD] at e, fun _ _ _ _ _ _ _ _ e => by simp [dzL] at e⟩
  | k + 1 => by
    obtain ⟨ihD, ihL⟩ := dz_ok b k
    refine ⟨fun h H d d' h' v R r e => ?_, fun h H l l' h' vs R r e => ?_⟩
    · cases d with
      | ref n =>
        unfold dzD at e
        split at e
        · split at e
          · rename_i xs hx
            split at e
            · rename_i ys h1 e1
              cases e
              obtain ⟨a, ha, rfl⟩ := den_ref.mp r
              obtain ⟨vs, k1, k2⟩ := R.cell n _ a hx ha
              refine .lock k1 True.intro fun od => ?_
              have ex : Ext H (upd H a (.frz od (.lst vs))) := Ext.mut k1 True.intro
              have hf : DenL G et (upd H a (.frz od (.lst vs))) xs vs := k2.mono List.prefix_rfl ex
              have hc : CellOk G et (upd H a (.frz od (.lst vs))) a (.frz xs) := ⟨vs, .inl ⟨od, upd_same⟩, hf⟩
              refine (ihL _ _ xs ys h' vs (R.set hx ha rfl k1 True.intro hc) hf e1).imp fun H1 ⟨R1, x1, D1⟩ => ⟨R1, ex.trans x1, ?_⟩
              exact den_fl.mpr ⟨a, vs, rfl, FrzM.ext x1 ⟨od, upd_same⟩, D1⟩
            · cases e
          · cases e
        · cases e
          exact .done ⟨R, Ext.refl H, r⟩
      | tup l =>
        unfold dzD at e
        split at e
        · rename_i ys h1 e1
          cases e
          obtain ⟨a, vs, rfl, h2, h3⟩ := den_tup.mp r
          exact (ihL h H l ys h' vs R h3 e1).imp fun H1 ⟨R1, x1, D1⟩ => ⟨R1, x1, den_tup.mpr ⟨a, vs, rfl, h2.ext x1, D1⟩⟩
        · cases e
      | exc a => simp [dzD] at e
      | fl l => simp [dzD] at e; obtain ⟨rfl, rfl⟩ := e; exact .done ⟨R, Ext.refl H, r⟩
      | fd ks l => simp [dzD] at e; obtain ⟨rfl, rfl⟩ := e; exact .done ⟨R, Ext.refl H, r⟩
      | non => simp [dzD] at e; obtain ⟨rfl, rfl⟩ := e; exact .done ⟨R, Ext.refl H, r⟩
      | bl i => simp [dzD] at e; obtain ⟨rfl, rfl⟩ := e; exact .done ⟨R, Ext.refl H, r⟩
      | int i => simp [dzD] at e; obtain ⟨rfl, rfl⟩ := e; exact .done ⟨R, Ext.refl H, r⟩
      | str i => simp [dzD] at e; obtain ⟨rfl, rfl⟩ := e; exact .done ⟨R, Ext.refl H, r⟩
    · cases l with
      | nil =>
        simp [dzL] at e
        obtain ⟨rfl, rfl⟩ := e
        exact .done ⟨R, Ext.refl H, r⟩
      | cons d l =>
        unfold dzL at e
        split at e
        · rename_i y h1 e1
          split at e
          · rename_i ys h2 e2
            cases e
            obtain ⟨v, ws, rfl, r1, r2⟩ := denL_cons.mp r
            refine (ihD h H d y h1 v R r1 e1).bind fun H1 ⟨R1, x1, D1⟩ => ?_
            refine (ihL h1 H1 l ys h' ws R1 (r2.mono List.prefix_rfl x1) e2).imp fun H2 ⟨R2, x2, D2⟩ => ⟨R2, x1.trans x2, ?_⟩
            exact denL_cons.mpr ⟨v, ws, rfl, D1.mono List.prefix_rfl x2, D2⟩
          · cases e
        · cases e
end
open Classical in
noncomputable def dzR (h : IH) (r : R D) : R D := match r with
  | .ok d h' => match dzD h.length 1000 h' d with
    | some (d', h2) => if D.lo h.length d' = true ∧ okB h.length h h2 then .ok d' (h2.take h.length) else .ok d h'
    | none => .ok d h'
  | r => r
noncomputable def mDz (m : ME) : ME := fun env h => dzR h (m env h)
theorem me_dz {X : Cx} {G : Cf} {W : WX} {e : Expr} {m : ME} (he : PE X e (tE G W m)) : PE X e (tE G W (mDz m)) := ⟨fun pins s σ H Q I ⟨et, env, h, hE, hH, hP⟩ => by
  have main : Pst G et H (m env h) (fun et' H' _ d => ∀ v, Den G et' H' d v → Locks (fun H2 => Q v H2) H') (fun c d H' => W c d σ H') := by
    have hP : Pst G et H (dzR h (m env h)) _ _ := hP
    revert hP
    cases m env h with
    | no => exact fun z => z
    | ex c d h' => exact fun z => z
    | ok d h' =>
      intro hP
      have dull : Pst G et H (.ok d h') (fun et' H' _ d => ∀ v, Den G et' H' d v → Q v H') (fun c d H' => W c d σ H') → Pst G et H (.ok d h') (fun et' H' _ d => ∀ v, Den G et' H' d v → Locks (fun H2 => Q v H2) H') (fun c d H' => W c d σ H') := fun z => z.imp fun et1 H1 h1 a p e hr q v hv => .done (q v hv)
      unfold dzR at hP
      dsimp only at hP
      split at hP
      · rename_i d' h2 e1
        split at hP
        · rename_i c
          intro et' H' p e hr v hv
          refine ((dz_ok (G := G) (et := et') h.length 1000).1 h' H' d d' h2 v hr hv e1).imp fun H2 ⟨R2, x2, D2⟩ => ?_
          have al := okB_all hH c.2
          have R3 := R2.cut p al
          rw [hH.len] at R3
          have lo := c.1
          rw [← hH.len] at lo
          exact hP et H2 List.prefix_rfl (e.trans x2) R3 v (D2.back p lo)
        · exact dull hP
      · exact dull hP
  refine thn (he.run pins s σ H _ I ⟨et, env, h, hE, hH, main⟩) fun v s1 ⟨x, H1, I1, r, q⟩ => ?_
  obtain ⟨H2, I2, q2⟩ := q.run I1
  exact ⟨x, H2, I2, r, q2⟩⟩
end NR

set_option Elab.async false
set_option linter.all false
set_option maxRecDepth 100000
set_option maxHeartbeats 4000000
namespace NR
open PySem PySem.Spec PyProof.Rows L2
/-! steps of a body, one by one -/
section
variable {s1 s2 : MS} {env env2 : EV} {h h2 h' : IH} {r : R D} {d : D} {it : MI} {gg : MG} {b : MS} {ds : List D} {q : RS}
theorem stN (e : s1 env h = .nx env2 h2) (k : (s2 env2 h2).fin = r) : (msCons s1 s2 env h).fin = r := by rw [ap_msCons, e, then_nx]; exact k
theorem stS (e : s1 env h = .nx env2 h2) (k : s2 env2 h2 = q) : msCons s1 s2 env h = q := by rw [ap_msCons, e, then_nx]; exact k
theorem stX (e : s1 env h = .nx env2 h2) (k : ∃ h', (s2 env2 h2).fin = .ok d h') : ∃ h', (msCons s1 s2 env h).fin = .ok d h' := by rw [ap_msCons, e, then_nx]; exact k
theorem stR (e : s1 env h = .rt d h') : (msCons s1 s2 env h).fin = .ok d h' := by rw [ap_msCons, e, then_rt]; rfl
theorem stRS (e : s1 env h = .rt d h') : msCons s1 s2 env h = .rt d h' := by rw [ap_msCons, e, then_rt]
theorem for_st (e : it env h = .ok (.st ds) h2) : msFor it gg b env h = forL gg b ds env h2 := by rw [ap_msFor, e, bindS_ok, forM_forL]
end
theorem fzD_penG {xs : List D} {z c c' : Cell} {g r : IH} (lo : ∀ k, D.loL k xs = true) (lc : ∀ k, Cell.lo k c' = true) : fzD (z :: c :: g) (z :: c' :: (g ++ r)) xs = .ok (.fl xs) (z :: c' :: g) := by
  unfold fzD newL
  rw [fzR_at (n := (z :: c' :: (g ++ r)).length) (xs := xs) (by simp) (by simp) (lo _) (by simp [lc])]
  simp
/-- drawing steps that leave cells behind the comprehension's list -/
theorem lcF_penG {env : EV} {m : ME} {it : MI} {gg : MG} {ws : List Nat} {ds : List D} {z cc c0 : Cell} {g : IH} {Pn : Nat → Cell → Prop} {b K : Nat} (lop : ∀ b c k, Pn b c → Cell.lo k c = true) (Po : Nat → D → Prop) (hi : it env (z :: cc :: g) = .ok (.st ds) (z :: c0 :: g)) (hl : ds.length ≤ 9000000)
    (hp : Pn (b + K * ds.length) c0) (lo : ∀ i y k, Po i y → D.lo k y = true)
    (step : ∀ i d, ds[i]? = some d → ∃ e1, gg d (wipeE env ws) = some e1 ∧ ∀ b c g, Pn (b + K) c → ∃ y c' r, m e1 (z :: c :: g) = .ok y (z :: c' :: (g ++ r)) ∧ Pn b c' ∧ Po i y) :
    ∃ ys c', mFz (mLc it gg mYes m ws) env (z :: cc :: g) = .ok (.fl ys) (z :: c' :: g) ∧ ys.length = ds.length ∧ (∀ i y, ys[i]? = some y → Po i y) ∧ Pn b c' := by
  have main : ∃ ys c' r, lcM (.st ds) gg mYes m (z :: c0 :: g).length ((Src.st ds).many (z :: c0 :: g) + 1) 0 (wipeE env ws) ((z :: c0 :: g) ++ [Cell.lst []]) = .ok (.ref (z :: c0 :: g).length) (z :: c' :: (g ++ Cell.lst ys :: r)) ∧ ys.length = ds.length ∧ (∀ i y, ys[i]? = some y → Po i y) ∧ Pn b c' := by
    refine lcM_inv (P := fun i h' => ∃ ys c' r, h' = z :: c' :: (g ++ Cell.lst ys :: r) ∧ ys.length = i ∧ (∀ j y, ys[j]? = some y → Po j y) ∧ Pn (b + K * (ds.length - i)) c') (Rs := fun o => ∃ ys c' r, o = .ok (.ref (z :: c0 :: g).length) (z :: c' :: (g ++ Cell.lst ys :: r)) ∧ ys.length = ds.length ∧ (∀ i y, ys[i]? = some y → Po i y) ∧ Pn b c') ?_ ?_ ?_
    · rintro i d h' hd ⟨ys, c', r, rfl, l1, p1, n1⟩
      have hi' := (List.getElem?_eq_some_iff.mp hd).1
      obtain ⟨e1, g1, st⟩ := step i d hd
      have e0 : ds.length - i = (ds.length - (i + 1)) + 1 := by omega
      rw [e0, Nat.mul_succ, ← Nat.add_assoc] at n1
      obtain ⟨y, c2, r2, e2, n2, p2⟩ := st _ c' (g ++ Cell.lst ys :: r) n1
      refine ⟨e1, g1, ?_⟩
      show ∃ y h3 acc, m e1 _ = .ok y h3 ∧ _
      refine ⟨y, _, ys, e2, by simp, by omega, ys ++ [y], c2, r ++ r2, by simp, by simp [l1], fun j z hz => ?_, n2⟩
      by_cases hj : j < ys.length
      · rw [List.getElem?_append_left hj] at hz
        exact p1 j z hz
      · have hj2 : j = ys.length := by
          have := (List.getElem?_eq_some_iff.mp hz).1
          simp at this
          omega
        subst hj2
        rw [List.getElem?_append_right (Nat.le_refl _), Nat.sub_self] at hz
        simp at hz
        subst hz
        rw [l1]
        exact p2
    · rintro h' ⟨ys, c', r, rfl, l1, p1, n1⟩
      rw [Nat.sub_self, Nat.mul_zero, Nat.add_zero] at n1
      exact ⟨ys, c', r, rfl, l1, p1, n1⟩
    · exact ⟨[], c0, [], by simp, rfl, by simp, by simpa using hp⟩
  obtain ⟨ys, c', r, e, l1, p1, n1⟩ := main
  refine ⟨ys, c', ?_, l1, p1, n1⟩
  rw [ap_mFz0, ap_mLc, hi]
  show fzR _ (lcM _ _ _ _ _ _ _ _ _) = _
  rw [e, fzR_at (xs := ys) (by simp) (by simp) (loL_of fun x hx => by
    obtain ⟨j, hj⟩ := List.mem_iff_getElem?.mp hx
    exact lo j x _ (p1 j x hj)) (by simp [lop b c' _ n1])]
  simp
theorem bMax1T_tup {h : IH} {ns : List Int} (l : 0 < ns.length) : bMax1T [.tup (ns.map D.int)] h = .ok (.int (imax ns)) h := by
  show (match (some (ns.map D.int)).bind (allM D.int?) with | some ns => if 0 < ns.length then R.ok (D.int (imax ns)) h else .no | none => .no) = _
  simp [l]
theorem bMax1T_fl {h : IH} {ns : List Int} (l : 0 < ns.length) : bMax1T [.fl (ns.map D.int)] h = .ok (.int (imax ns)) h := by
  show (match (some (ns.map D.int)).bind (allM D.int?) with | some ns => if 0 < ns.length then R.ok (D.int (imax ns)) h else .no | none => .no) = _
  simp [l]
theorem bMin1T_fl {h : IH} {ns : List Int} (l : 0 < ns.length) : bMin1T [.fl (ns.map D.int)] h = .ok (.int (imin ns)) h := by
  show (match (some (ns.map D.int)).bind (allM D.int?) with | some ns => if 0 < ns.length then R.ok (D.int (imin ns)) h else .no | none => .no) = _
  simp [l]
@[simp] theorem ap_mIsT {Ts : List String} {m : ME} {env : EV} {h : IH} : mIsT Ts m env h = (m env h).bind fun x h1 => match isTs h1 x Ts with | some b => .ok (.bl b) h1 | none => .no := rfl
@[simp] theorem ap_mChain3 {f g f3 : D → D → IH → R D} {a b c d : ME} {env : EV} {h : IH} : mChain3 f g f3 a b c d env h = (a env h).bind fun x h1 => (b env h1).bind fun y h2 => (f x y h2).bind fun z h3 => match z with
  | .bl true => (c env h3).bind fun w h4 => (g y w h4).bind fun u h5 => match u with
    | .bl true => (d env h5).bind fun t h6 => f3 w t h6
    | .bl false => .ok (.bl false) h5
    | _ => .no
  | .bl false => .ok (.bl false) h3
  | _ => .no := rfl
@[simp] theorem ap_iRevR1 {ta : MA} {env : EV} {h : IH} : iRevR1 ta env h = (ta env h).bind fun xs h1 => match xs with
  | [.int j] => if -10000000 ≤ j ∧ j ≤ 10000000 then .ok (.st (intsDown (j - 1) j.toNat)) h1 else .no
  | _ => .no := rfl
/-! what is locked within -/
/-- nothing within is to be locked -/
def Fz (m : Nat) (d : D) : Prop := ∀ (b k : Nat) (h : IH), m ≤ k → dzD b k h d = some (d, h)
theorem Fz.mono {m n : Nat} {d : D} (f : Fz m d) (l : m ≤ n) : Fz n d := fun b k h q => f b k h (by omega)
theorem fz1 {m : Nat} {d : D} (l : 1 ≤ m) (e : ∀ b k h, dzD b (k + 1) h d = some (d, h)) : Fz m d := fun b k h q => by
  cases k with
  | zero => omega
  | succ k => exact e b k h
theorem Fz_int {i : Int} : Fz 1 (.int i) := fz1 (by omega) fun _ _ _ => by simp [dzD]
theorem Fz_nD {i : Nat} : Fz 1 (nD i) := Fz_int
theorem Fz_str {i : List Nat} : Fz 1 (.str i) := fz1 (by omega) fun _ _ _ => by simp [dzD]
theorem Fz_bl {i : Bool} : Fz 1 (.bl i) := fz1 (by omega) fun _ _ _ => by simp [dzD]
theorem Fz_non : Fz 1 .non := fz1 (by omega) fun _ _ _ => by simp [dzD]
theorem Fz_fl {l : List D} : Fz 1 (.fl l) := fz1 (by omega) fun _ _ _ => by simp [dzD]
theorem dzL_fz {m : Nat} {b : Nat} : ∀ {l : List D} {k : Nat} {h : IH}, (∀ d ∈ l, Fz m d) → m + l.length + 1 ≤ k → dzL b k h l = some (l, h)
  | [], 0, h, _, q => by omega
  | [], k + 1, h, _, q => by unfold dzL; rfl
  | d :: l, 0, h, f, q => by omega
  | d :: l, k + 1, h, f, q => by
    unfold dzL
    rw [List.length_cons] at q
    rw [f d List.mem_cons_self b k h (by omega)]
    dsimp only
    rw [dzL_fz (fun x hx => f x (List.mem_cons_of_mem _ hx)) (by omega)]
theorem Fz_tup {m : Nat} {l : List D} (f : ∀ d ∈ l, Fz m d) : Fz (m + l.length + 2) (.tup l) := fun b k h q => by
  cases k with
  | zero => omega
  | succ k =>
    unfold dzD
    rw [dzL_fz f (by omega)]
/-- a new list -/
theorem dzD_new {m b k n : Nat} {h : IH} {xs : List D} (bn : b ≤ n) (e : h[n]? = some (.lst xs)) (f : ∀ d ∈ xs, Fz m d) (q : m + xs.length + 2 ≤ k) : dzD b k h (.ref n) = some (.fl xs, h.set n (.frz xs)) := by
  cases k with
  | zero => omega
  | succ k =>
    unfold dzD
    rw [if_pos bn, e]
    dsimp only
    rw [dzL_fz f (by omega)]
theorem dzR_of {h h' h2 : IH} {d d' : D} (e : dzD h.length 1000 h' d = some (d', h2)) (lo : D.lo h.length d' = true) (ok : okB h.length h h2) : dzR h (.ok d h') = .ok d' (h2.take h.length) := by
  unfold dzR
  dsimp only
  rw [e]
  dsimp only
  rw [if_pos ⟨lo, ok⟩]
/-- a tuple whose first item is a new list -/
theorem dz_tup1 {m : Nat} {h : IH} {xs l : List D} (f : ∀ d ∈ xs, Fz m d) (g : ∀ d ∈ l, Fz m d) (q : m + xs.length + l.length ≤ 900) (lo1 : D.loL h.length xs = true) (lo2 : D.loL h.length l = true) :
    dzR h (.ok (.tup (.ref h.length :: l)) (h ++ [.lst xs])) = .ok (.tup (.fl xs :: l)) h := by
  rw [dzR_of (d' := .tup (.fl xs :: l)) (h2 := h ++ [.frz xs]) ?_ (by simp [lo1, lo2]) okB_self]
  · simp
  · unfold dzD
    have e : dzL h.length 999 (h ++ [.lst xs]) (.ref h.length :: l) = some (.fl xs :: l, h ++ [.frz xs]) := by
      unfold dzL
      rw [dzD_new (k := 998) (Nat.le_refl _) get_app0 f (by omega), set_app0]
      dsimp only
      rw [dzL_fz (k := 998) g (by omega)]
      rfl
    rw [e]
theorem ap_mDz {m : ME} {env : EV} {h : IH} : mDz m env h = dzR h (m env h) := rfl
theorem dz_bind {A : Type} {h : IH} {r : R A} {k : A → IH → R D} : dzR h (r.bind k) = r.bind fun a h1 => dzR h (k a h1) := by cases r <;> rfl
@[simp] theorem ap_mDz_call {n : Nat} {fm : MF} {ta : MA} {env : EV} {h : IH} : mDz (mCall n fm ta) env h = (ta env h).bind fun ds h1 => dzR h (callC n fm ds h1) := by rw [ap_mDz, ap_mCall, dz_bind]
@[simp] theorem dz_ex {h h' : IH} {c : Str} {d : XF} : dzR h (.ex c d h') = .ex c d h' := rfl
@[simp] theorem dIs_tup_non {neg : Bool} {l : List D} {h : IH} : dIsN neg (.tup l) .non h = .ok (.bl neg) h := rfl
@[simp] theorem dIs_fl_non {neg : Bool} {l : List D} {h : IH} : dIsN neg (.fl l) .non h = .ok (.bl neg) h := rfl
@[simp] theorem dIs_str_non {neg : Bool} {l : List Nat} {h : IH} : dIsN neg (.str l) .non h = .ok (.bl neg) h := rfl
@[simp] theorem dIs_int_non {neg : Bool} {l : Int} {h : IH} : dIsN neg (.int l) .non h = .ok (.bl neg) h := rfl
@[simp] theorem dIs_bl_non {neg : Bool} {l : Bool} {h : IH} : dIsN neg (.bl l) .non h = .ok (.bl neg) h := rfl
@[simp] theorem dIs_ref_non {neg : Bool} {l : Nat} {h : IH} : dIsN neg (.ref l) .non h = .ok (.bl neg) h := rfl
theorem dIx_last {h : IH} {o : D} {xs : List D} {d : D} (hs : seqOf h o = some xs) (e : xs[xs.length - 1]? = some d) : dIx o (.int (-1)) h = .ok d h := by
  have hi := (List.getElem?_eq_some_iff.mp e).1
  show getD' _ _ _ = _
  unfold getD'
  cases o with
  | str s => simp [seqOf] at hs
  | _ =>
    dsimp only
    rw [hs]
    have : ixN xs.length (-1) = some (xs.length - 1) := by
      unfold ixN
      rw [if_neg (by omega), if_pos (by omega)]
      congr 1
      omega
    dsimp only [Option.bind]
    rw [this]
    dsimp only [Option.bind]
    rw [e]
/-! sources that are read of the heap -/
theorem forM_src {src : Src} {ds : List D} {g : MG} {b : MS} (P : IH → Prop) (hs : ∀ h, P h → src.ok h = true ∧ ∀ i, src.get h i = ds[i]?) (keep : ∀ e1 h, P h → ∀ e2 h2, (b e1 h = .nx e2 h2 ∨ b e1 h = .ct e2 h2) → P h2) :
    ∀ (m i : Nat) (env : EV) (h : IH), P h → ds.length < m + i → i ≤ ds.length → forM src g b m i env h = forL g b (ds.drop i) env h
  | 0, i, env, h, _, l, l2 => by omega
  | m + 1, i, env, h, hp, l, l2 => by
    obtain ⟨o, ge⟩ := hs h hp
    unfold forM
    rw [if_pos o, ge i]
    cases hd : ds[i]? with
    | none =>
      have := List.getElem?_eq_none_iff.mp hd
      rw [List.drop_eq_nil_of_le this]
      rfl
    | some d =>
      have hi := (List.getElem?_eq_some_iff.mp hd).1
      have ed : ds[i] = d := (List.getElem?_eq_some_iff.mp hd).2
      rw [List.drop_eq_getElem_cons hi, ed]
      dsimp only
      cases hg : g d env with
      | none => unfold forL; rw [hg]
      | some e1 =>
        dsimp only
        rw [forL_cons hg]
        have kp := keep e1 h hp
        cases hb : b e1 h with
        | nx e2 h2 => exact forM_src P hs keep m (i + 1) e2 h2 (kp e2 h2 (.inl hb)) (by omega) hi
        | ct e2 h2 => exact forM_src P hs keep m (i + 1) e2 h2 (kp e2 h2 (.inr hb)) (by omega) hi
        | bk e2 h2 => rfl
        | rt d2 h2 => rfl
        | ex c d2 e2 h2 => rfl
        | no => rfl
/-- a for whose turns leave the heap as it is -/
theorem for_src {it : MI} {gg : MG} {b : MS} {env : EV} {h h2 : IH} {src : Src} {ds : List D} (e : it env h = .ok src h2) (o : src.ok h2 = true) (ge : ∀ i, src.get h2 i = ds[i]?) (mn : src.many h2 = ds.length) (keep : ∀ e1 e2 h3, (b e1 h2 = .nx e2 h3 ∨ b e1 h2 = .ct e2 h3) → h3 = h2) : msFor it gg b env h = forL gg b ds env h2 := by
  rw [ap_msFor, e, bindS_ok, mn, forM_src (fun h => h = h2) (fun h x => by subst x; exact ⟨o, ge⟩) (fun e1 h x e2 h3 hb => by subst x; exact keep e1 e2 h3 hb) _ 0 env h2 rfl (by omega) (by omega), List.drop_zero]
/-- a zip of lists as they stand -/
theorem iZip_q {ta : MA} {env : EV} {h h2 : IH} {a b : D} {l l' : List D} (e : ta env h = .ok [a, b] h2) (ea : qOf h2 a = some l) (eb : qOf h2 b = some l') : ∃ src, iZip ta env h = .ok src h2 ∧ src.ok h2 = true ∧ (∀ i, src.get h2 i = (List.zipWith (fun x y : D => D.tup [x, y]) l l')[i]?) ∧ src.many h2 = (List.zipWith (fun x y : D => D.tup [x, y]) l l').length := by
  have ez : zipQ a b (min l.length l'.length) h2 = some (List.zipWith (fun x y : D => D.tup [x, y]) l l') := by
    unfold zipQ
    rw [ea, eb]
    dsimp only
    rw [if_pos rfl]
  unfold iZip
  rw [e, bind_ok]
  dsimp only
  have dy : ∃ src, (R.ok (Src.dy (zipQ a b (min l.length l'.length))) h2 : R Src) = .ok src h2 ∧ src.ok h2 = true ∧ (∀ i, src.get h2 i = (List.zipWith (fun x y : D => D.tup [x, y]) l l')[i]?) ∧ src.many h2 = (List.zipWith (fun x y : D => D.tup [x, y]) l l').length :=
    ⟨_, rfl, by show (zipQ a b (min l.length l'.length) h2).isSome = true; rw [ez]; rfl, fun i => by show (zipQ a b (min l.length l'.length) h2).bind _ = _; rw [ez]; rfl, by show ((zipQ a b (min l.length l'.length) h2).getD []).length = _; rw [ez]; rfl⟩
  cases sa : stOf a with
  | none => dsimp only; rw [ea, eb]; exact dy
  | some m =>
    cases sb : stOf b with
    | none => dsimp only; rw [ea, eb]; exact dy
    | some m' =>
      have e1 : m = l := by
        cases a <;> simp [stOf] at sa <;> simp [qOf, stOf] at ea <;> rw [← sa, ← ea]
      have e2 : m' = l' := by
        cases b <;> simp [stOf] at sb <;> simp [qOf, stOf] at eb <;> rw [← sb, ← eb]
      subst e1 e2
      exact ⟨_, rfl, rfl, fun i => rfl, rfl⟩
theorem qOf_ref {h : IH} {n : Nat} {xs : List D} (e : h[n]? = some (.lst xs)) : qOf h (.ref n) = some xs := lstOf_ref e
@[simp] theorem qOf_fl {h : IH} {xs : List D} : qOf h (.fl xs) = some xs := rfl
@[simp] theorem qOf_tup {h : IH} {xs : List D} : qOf h (.tup xs) = some xs := rfl
end NR

set_option Elab.async false
set_option linter.all false
set_option maxRecDepth 100000
set_option maxHeartbeats 4000000
namespace NR
open PySem PySem.Spec PyProof.Rows L2
/-! ### instances of classes -/
def putFD (f : Str) (d : D) : List (Str × D) → List (Str × D)
  | [] => [(f, d)]
  | (g, x) :: r => if g = f then (g, d) :: r else (g, x) :: putFD f d r
/-- the fields of an instance of a class -/
def insAt (c : Str) (h : IH) : D → Option (List (Str × D))
  | .ref n => match h[n]? with
    | some (.ins c' fs) => if c' = c then some fs else none
    | _ => none
  | _ => none
section
variable {G : Cf} {et : List Addr} {H : Hp}
theorem DenK.look : ∀ {fs : List (Str × D)} {ws : List (Str × V)}, DenK id G et H fs ws → ∀ f : Str, match fs.lookup f with | some d => ∃ v, ws.lookup f = some v ∧ Den G et H d v | none => ws.lookup f = none
  | [], ws, h, f => by
    have : ws = [] := by simpa using h.1
    subst this
    rfl
  | (g, d) :: fs, ws, h, f => by
    obtain ⟨h1, h2⟩ := h
    cases ws with
    | nil => simp at h1
    | cons w ws =>
      obtain ⟨g', v⟩ := w
      simp only [List.map_cons, List.cons.injEq, id] at h1
      obtain ⟨rfl, h1⟩ := h1
      simp only [List.map_cons] at h2
      rw [DenL] at h2
      obtain ⟨v0, vs, e, hd, hl⟩ := h2
      simp only [List.cons.injEq] at e
      obtain ⟨rfl, rfl⟩ := e
      have ih := DenK.look (fs := fs) (ws := ws) ⟨h1, hl⟩ f
      rw [List.lookup_cons, List.lookup_cons]
      cases q : f == g' with
      | true => exact ⟨v, rfl, hd⟩
      | false => exact ih
theorem DenK.put {d : D} {v : V} (hd : Den G et H d v) (f : Str) : ∀ {fs : List (Str × D)} {ws : List (Str × V)}, DenK id G et H fs ws → DenK id G et H (putFD f d fs) (putF f v ws)
  | [], ws, h => by
    have : ws = [] := by simpa using h.1
    subst this
    refine ⟨rfl, ?_⟩
    show DenL G et H [d] [v]
    rw [DenL]
    exact ⟨v, [], rfl, hd, by rw [DenL]⟩
  | (g, x) :: fs, ws, h => by
    obtain ⟨h1, h2⟩ := h
    cases ws with
    | nil => simp at h1
    | cons w ws =>
      obtain ⟨g', y⟩ := w
      simp only [List.map_cons, List.cons.injEq, id] at h1
      obtain ⟨rfl, h1⟩ := h1
      simp only [List.map_cons] at h2
      rw [DenL] at h2
      obtain ⟨v0, vs, e, hx, hl⟩ := h2
      simp only [List.cons.injEq] at e
      obtain ⟨rfl, rfl⟩ := e
      have ih := DenK.put hd f (fs := fs) (ws := ws) ⟨h1, hl⟩
      unfold putFD putF
      by_cases q : g' = f
      · rw [if_pos q, if_pos q]
        refine ⟨by simp [h1], ?_⟩
        show DenL G et H (d :: fs.map (·.2)) (v :: ws.map (·.2))
        rw [DenL]
        exact ⟨_, _, rfl, hd, hl⟩
      · rw [if_neg q, if_neg q]
        refine ⟨by simp [ih.1], ?_⟩
        show DenL G et H (x :: (putFD f d fs).map (·.2)) (y :: (putF f v ws).map (·.2))
        rw [DenL]
        exact ⟨_, _, rfl, hx, ih.2⟩
theorem insAt_den {c : Str} {h : IH} {x : D} {fs : List (Str × D)} {v : V} (R : HRel G et h H) (hv : Den G et H x v) (e : insAt c h x = some fs) : ∃ n a dx ws, x = .ref n ∧ h[n]? = some (.ins c fs) ∧ et[n]? = some a ∧ v = .ref a ∧ H a = some (.ins (G.C c) dx ws) ∧ DenK id G et H fs ws := by
  unfold insAt at e
  split at e
  · rename_i n
    split at e
    · rename_i c' fs' hn
      split at e
      · rename_i ec
        subst ec
        cases e
        rw [Den] at hv
        obtain ⟨a, ha, rfl⟩ := hv
        obtain ⟨dx, ws, h1, h2⟩ := R.cell n _ a hn ha
        exact ⟨n, a, dx, ws, rfl, hn, ha, rfl, h1, h2⟩
      · cases e
    · cases e
  · cases e
end
def mFld (c f : Str) (mo : ME) : ME := fun env h => (mo env h).bind fun x h1 => match (insAt c h1 x).bind (List.lookup f) with
  | some d => .ok d h1
  | none => .no
def putAtF (c f : Str) (d : D) (h : IH) (x : D) : Option IH := match x with
  | .ref n => match insAt c h (.ref n) with
    | some fs => if fs.length ≤ 100 then some (h.set n (.ins c (putFD f d fs))) else none
    | none => none
  | _ => none
def msSetF (c f : Str) (mo me : ME) : MS := fun env h => (me env h).bindS env fun d h1 => (mo env h1).bindS env fun x h2 => match putAtF c f d h2 x with
  | some h3 => .nx env h3
  | none => .no
section
variable {X : Cx} {G : Cf} {W : WX} {o e value : Expr} {c f : Str} {pos pos' : Pos} {mo me : ME}
theorem me_fld (hK : X.K = G.K) (k : Cls X.K (G.C c)) (na : NoAttr X.K (G.C c) f) (ho : PE X o (tE G W mo)) (hb : attributeBase o f X.env (eval o X.env) = eval o X.env := by rfl) : PE X (.Attribute o f pos) (tE G W (mFld c f mo)) := PE.imp (pe_fld ho hb) fun σ H Q ⟨et, env, h, hE, hH, hP⟩ => by
  refine ⟨et, env, h, hE, hH, (Pst.of_bind hP).imp fun et1 H1 h1 x p e hr q v hv => ?_⟩
  cases hi : insAt c h1 x with
  | none =>
    rw [hi] at q
    exact q.elim
  | some fs =>
    rw [hi] at q
    obtain ⟨n, a, dx, ws, rfl, hn, ha, rfl, h3, h4⟩ := insAt_den hr hv hi
    have hl := h4.look f
    have q : Pst G et1 H1 (match fs.lookup f with | some d => R.ok d h1 | none => R.no) _ _ := q
    cases hf : fs.lookup f with
    | none =>
      rw [hf] at q
      exact q.elim
    | some d =>
      rw [hf] at q hl
      obtain ⟨v, e1, e2⟩ := hl
      exact ⟨a, _, dx, ws, v, rfl, h3, k, na, e1, q et1 H1 List.prefix_rfl (Ext.refl _) hr v e2⟩
theorem DenK.len {et : List Addr} {H : Hp} {fs : List (Str × D)} {ws : List (Str × V)} (h : DenK id G et H fs ws) : ws.length = fs.length := by
  have := congrArg List.length h.1
  simpa using this
theorem ms_fld (hK : X.K = G.K) (k : Cls X.K (G.C c)) (na : NoAttr X.K (G.C c) f) (ho : PE X o (tE G W mo)) (hv : PE X value (tE G W me)) (hs : swapsWith value (some (.Attribute o f pos')) pos.line X.env = pure false := by rfl) : PS X (.Assign [.Attribute o f pos'] value pos) (tS G W (msSetF c f mo me)) := PS.imp (ps_fld ho hv hs) fun D σ H ⟨et, env, h, hE, hH, hP⟩ => by
  refine ⟨et, env, h, hE, hH, (PstS.of_bind hE hP).imp fun et1 H1 h1 d p e hr q v hv => ?_⟩
  refine ⟨et1, env, h1, hE.mono p e, hr, (PstS.of_bind (hE.mono p e) q).imp fun et2 H2 h2 x p2 e2 hr2 q2 u hu => ?_⟩
  unfold putAtF at q2
  cases x with
  | ref n =>
    dsimp only at q2
    cases hi : insAt c h2 (.ref n) with
    | none =>
      rw [hi] at q2
      exact q2.elim
    | some fs =>
      rw [hi] at q2
      dsimp only at q2
      split at q2
      · rename_i h3 hq
        split at hq
        · rename_i hl
          cases hq
          obtain ⟨n', a, dx, ws, en, hn, ha, rfl, h3, h4⟩ := insAt_den hr2 hu hi
          cases en
          have hv2 := hv.mono p2 e2
          refine ⟨a, _, dx, ws, rfl, h3, k, na, (by rw [h4.len]; omega), ?_⟩
          have ex : Ext H2 (upd H2 a (.ins (G.C c) dx (putF f v ws))) := Ext.mut h3 True.intro
          exact q2 et2 _ σ List.prefix_rfl ex (hr2.set hn ha rfl h3 True.intro ⟨dx, _, upd_same, ((DenK.put hv2 f h4).mono List.prefix_rfl ex)⟩) (((hE.mono p e).mono p2 e2).mono List.prefix_rfl ex)
        · cases hq
      · exact q2.elim
  | _ => exact q2.elim
end
/-! ### methods -/
def tMthS (C : Addr) (m : Str) (sp : Sp) (E : L2.St → XK) (ta : TE) (t : TA) : TE := fun σ H Q => ta σ H fun x H1 => ∃ a dx fs, x = .ref a ∧ H1 a = some (.ins C dx fs) ∧ fs.lookup m = none ∧ t σ H1 fun vs H2 => sp (x :: vs) H2 Q (E σ)
section
variable {X : Cx} {CX : CXT} {k : Nat} {f C : Addr} {fd : FuncData} {ps : List Str} {sp : Sp} {E : L2.St → XK} {x m : Str} {p pos apos : Pos} {e o : Expr} {es : List Expr} {ta : TE} {t : TA}
theorem pe_mthS {pl : Sem Bool} (he : PE X o ta) (c : Cls X.K C) (hm : Meth X.K C m f) (F : FnOk X.prog X.w X.K X.mg X.base CX k f fd ps sp) (hr : Room k X.A) (hb : Binds X.K fd ps []) (hx : ∀ σ, PassesAt CX X σ (E σ)) (ha : PA X (e :: es) t)
    (hst : starEach (e :: es) X.env = (false, eval e X.env) :: starEach es X.env := by rfl) (hpl : (backTo pos (starEach es X.env)).any (·.1) = false := by rfl)
    (ht : eval (.Call (.Attribute o m apos) (e :: es) [] pos) X.env = (do
      let ov ← eval o X.env
      standAt apos.atName
      let (f, first) ← holding [ov] (getMethod ov m pl)
      callWith pos f first (backTo pos (starEach (e :: es) X.env)) (backToKw pos (keywordEach [] X.env))) := by rfl) :
    PE X (.Call (.Attribute o m apos) (e :: es) [] pos) (tMthS C m sp E ta t) := by
  refine ⟨fun pins s σ H Q I h => ?_⟩
  refine PySem.W.methodCall_KW (pl := pl) (thn (he.run pins s σ H _ I h) fun u s1 ⟨x, H1, I1, rx, a, dx, fs, ex, ea, l, q⟩ => ?_) ht
  subst ex
  obtain rfl : u = Value.ref a := rx
  refine getmeth_ok I1 ea c hm l ?_
  refine PySem.W.callWith_K (first := [.ref a]) (h₀ := X.base) I.ok.mod.kin hm.kp (thn (ha.run pos pins s1 σ H1 _ I1 q) fun us s2 ⟨vs, H2, I2, r, q2⟩ => ⟨I2.kIn, ?_⟩) hst hpl
  exact run_fnS (us := .ref a :: us) (vs := .ref a :: vs) F hr hb (hx σ) I2 (.cons rfl r) q2
theorem pe_mth0S {pl : Sem Bool} (he : PE X o ta) (c : Cls X.K C) (hm : Meth X.K C m f) (F : FnOk X.prog X.w X.K X.mg X.base CX k f fd ps sp) (hr : Room k X.A) (hb : Binds X.K fd ps []) (hx : ∀ σ, PassesAt CX X σ (E σ))
    (ht : eval (.Call (.Attribute o m apos) [] [] pos) X.env = (do
      let ov ← eval o X.env
      standAt apos.atName
      let (f, first) ← holding [ov] (getMethod ov m pl)
      callWith pos f first (backTo pos (starEach [] X.env)) (backToKw pos (keywordEach [] X.env))) := by rfl) :
    PE X (.Call (.Attribute o m apos) [] [] pos) (tMthS C m sp E ta tNil) := by
  refine ⟨fun pins s σ H Q I h => ?_⟩
  refine PySem.W.methodCall_KW (pl := pl) (thn (he.run pins s σ H _ I h) fun u s1 ⟨x, H1, I1, rx, a, dx, fs, ex, ea, l, q⟩ => ?_) ht
  subst ex
  obtain rfl : u = Value.ref a := rx
  refine getmeth_ok I1 ea c hm l ?_
  exact PySem.W.callWith_K0 (first := [.ref a]) I1.kIn hm.kp (run_fnS (us := [.ref a]) (vs := [.ref a]) F hr hb (hx σ) I1 (.cons rfl .nil) q)
/-! a new instance -/
def tMkS (C : Addr) (sp : Sp) (E : L2.St → XK) (t : TA) : TE := fun σ H Q => t σ H fun vs H1 => ∀ x dx, H1 x = none → H1 dx = none → dx ≠ x →
  sp (.ref x :: vs) (upd (upd H1 dx (.own x)) x (.ins C dx [])) (fun v H2 => v = .non ∧ Q (.ref x) H2) (E σ)
theorem run_mkS {pins : List (Addr × Obj)} {σ : L2.St} {H : Hp} {s : Shared} {Q : VK} {us : List Value} {vs : List V} (M : Mk X.K C f) (F : FnOk X.prog X.w X.K X.mg X.base CX k f fd ps sp) (hr : Room (k + 1) X.A) (hb : Binds X.K fd ps [])
    (hx : PassesAt CX X σ (E σ)) (I : Inv X pins σ H s) (r : Vals vs us)
    (h : ∀ x dx, H x = none → H dx = none → dx ≠ x → sp (.ref x :: vs) (upd (upd H dx (.own x)) x (.ins C dx [])) (fun v H2 => v = .non ∧ Q (.ref x) H2) (E σ)) :
    wpAny (model X.prog X.w) X.A (call (.ref C) us) (EP X pins σ Q) X.xe s := by
  have hq := h (s.heap.objs.size + 1) s.heap.objs.size (I.hok.fresh (Nat.le_succ _)) (I.hok.fresh (Nat.le_refl _)) (Nat.ne_of_lt (Nat.lt_succ_self _))
  have I2 := Inv.made (C := C) I
  have r2 : Vals (V.ref (s.heap.objs.size + 1) :: vs) (Value.ref (s.heap.objs.size + 1) :: us) := .cons rfl r
  have hl : (Value.ref (s.heap.objs.size + 1) :: us).length = ps.length := by
    have e := r2.length
    rw [F.len _ _ _ _ hq] at e
    exact e.symm
  have b := hb _ (Value.ref (s.heap.objs.size + 1) :: us) I2.kIn (by rw [List.append_nil]; exact hl)
  rw [List.append_nil] at b
  refine wpAny_call (make_map (f := f) I.kIn M.makes M.init (beq_iff_eq.mp M.fn) (codeAny_mono (F.run _ X.stack _ _ ⟨Value.ref (s.heap.objs.size + 1) :: us, []⟩ (Value.ref (s.heap.objs.size + 1) :: us) _ _ (E σ) (hr.make C us [])
    (I2.env0.make C us []) b r2 hq) fun r s' hq' => ?_))
  cases r with
  | error e => exact hx pins _ _ e s' I2 hq'
  | ok fl =>
    cases fl with
    | ret u =>
      obtain ⟨v, H', I3, rv, ev, q3⟩ := I2.after hq'
      subst ev
      exact ⟨rv, ⟨V.ref (s.heap.objs.size + 1), H', I3, rfl, q3⟩⟩
    | next => exact False.elim hq'
    | brk => exact False.elim hq'
    | cont => exact False.elim hq'
theorem pe_mkS (M : Mk X.K C f) (F : FnOk X.prog X.w X.K X.mg X.base CX k f fd ps sp) (hr : Room (k + 1) X.A) (hg : Gl X x) (hm : X.mg x = some (.ref C)) (hb : Binds X.K fd ps []) (hx : ∀ σ, PassesAt CX X σ (E σ))
    (ha : PA X (e :: es) t) (hdb : (x == ("__debug__" : Str)) = false := by decide) (he : starEach (e :: es) X.env = (false, eval e X.env) :: starEach es X.env := by rfl) (hpl : (backTo pos (starEach es X.env)).any (·.1) = false := by rfl) :
    PE X (.Call (.Name x p) (e :: es) [] pos) (tMkS C sp E t) := by
  refine ⟨fun pins s σ H Q I h => ?_⟩
  refine wpAny_Call_Name_kw (ld_glob I hg hm ?_ hdb)
  refine PySem.W.callWith_K (h₀ := X.base) I.ok.mod.kin M.kp (thn (ha.run pos pins s σ H _ I h) fun us s1 ⟨vs, H1, I1, r, q⟩ => ⟨I1.kIn, ?_⟩) he hpl
  exact run_mkS M F hr hb (hx σ) I1 r q
theorem pe_mk0S (M : Mk X.K C f) (F : FnOk X.prog X.w X.K X.mg X.base CX k f fd ps sp) (hr : Room (k + 1) X.A) (hg : Gl X x) (hm : X.mg x = some (.ref C)) (hb : Binds X.K fd ps []) (hx : ∀ σ, PassesAt CX X σ (E σ))
    (hdb : (x == ("__debug__" : Str)) = false := by decide) : PE X (.Call (.Name x p) [] [] pos) (tMkS C sp E tNil) := by
  refine ⟨fun pins s σ H Q I h => ?_⟩
  refine wpAny_Call_Name_kw (ld_glob I hg hm ?_ hdb)
  exact PySem.W.callWith_K0 I.kIn M.kp (run_mkS (us := []) M F hr hb (hx σ) I .nil h)
end
/-- a method that is read, its level -/
structure Mtd (P : Program) (w : World) (K : PySem.W.Frag) (mg : Str → Option Value) (base : Heap) (G : Cf) (c m : Str) (k n : Nat) (fm : MF) : Prop where
  ex : ∃ f fd ps, FnOk P w K mg base (L2.CX P w) k f fd ps (FSp G n fm) ∧ Cls K (G.C c) ∧ Meth K (G.C c) m f ∧ Binds K fd ps []
/-- a class that can be made, its __init__ -/
structure Mkd (P : Program) (w : World) (K : PySem.W.Frag) (mg : Str → Option Value) (base : Heap) (G : Cf) (c : Str) (k n : Nat) (fm : MF) : Prop where
  ex : ∃ f fd ps, FnOk P w K mg base (L2.CX P w) k f fd ps (FSp G n fm) ∧ Mk K (G.C c) f ∧ mg c = some (.ref (G.C c)) ∧ Binds K fd ps []
def noLook (m : Str) (fs : List (Str × D)) : Bool := (fs.lookup m).isNone
noncomputable def mMth (c m : Str) (n : Nat) (fm : MF) (mo : ME) (ma : MA) : ME := fun env h => (mo env h).bind fun x h1 => match insAt c h1 x with
  | some fs => if noLook m fs = true then (ma env h1).bind fun ds h2 => callC n fm (x :: ds) h2 else .no
  | none => .no
noncomputable def mNew (c : Str) (n : Nat) (fm : MF) (ma : MA) : ME := fun env h => (ma env h).bind fun ds h1 => (callC n fm (.ref h1.length :: ds) (h1 ++ [.ins c []])).bind fun d h2 => match d with
  | .non => .ok (.ref h1.length) h2
  | _ => .no
theorem Pst.from_old {A : Type} {G : Cf} {et et1 : List Addr} {H H1 : Hp} (p : et <+: et1) (e : Ext H H1) {r : R A} {F : List Addr → Hp → IH → A → Prop} {W : Value → Option Addr → Hp → Prop} (x : Pst G et H r F W) : Pst G et1 H1 r F W := by
  cases r with
  | ok a h => exact fun et' H' p2 e2 hr => x et' H' (p.trans p2) (e.trans e2) hr
  | ex c d h => exact fun et' H' cls dd p2 e2 hr hx => x et' H' cls dd (p.trans p2) (e.trans e2) hr hx
  | no => exact x.elim
section
variable {X : Cx} {G : Cf} {W : WX} {k j n : Nat} {fm : MF} {c m : Str} {p pos apos : Pos} {e o : Expr} {es : List Expr} {mo : ME} {mt : MA}
theorem mth_ok {σ : L2.St} {H : Hp} {Q : VK} {t : TA} (ht : t = tA G W mt) (hx : tE G W (mMth c m n fm mo mt) σ H Q) : tMthS (G.C c) m (FSp G n fm) (WE W) (tE G W mo) t σ H Q := by
  subst ht
  obtain ⟨et, env, h, hE, hH, hP⟩ := hx
  refine ⟨et, env, h, hE, hH, (Pst.of_bind hP).imp fun et1 H1 h1 x p e hr q v hv => ?_⟩
  cases hi : insAt c h1 x with
  | none =>
    rw [hi] at q
    exact q.elim
  | some fs =>
    rw [hi] at q
    dsimp only at q
    split at q
    · rename_i nl
      obtain ⟨i, a, dx, ws, rfl, hn, ha, rfl, h3, h4⟩ := insAt_den hr hv hi
      have hl := h4.look m
      have nl : fs.lookup m = none := by
        unfold noLook at nl
        simpa using nl
      rw [nl] at hl
      refine ⟨a, dx, ws, rfl, h3, hl, et1, env, h1, hE.mono p e, hr, (Pst.of_bind q).imp fun et2 H2 h2 ds p2 e2 hr2 q2 vs hvs => ?_⟩
      refine FSp.of_call (ds := .ref i :: ds) ?_ hr2 q2
      rw [DenL]
      exact ⟨_, _, rfl, hv.mono p2 e2, hvs⟩
    · exact q.elim
theorem me_mth (F : Mtd X.prog X.w X.K X.mg X.base G c m k n fm) (hr : Room j X.A) (hj : k ≤ j) (tk : Takes X W) (ho : PE X o (tE G W mo)) (ha : PA X (e :: es) (tA G W mt)) {pl : Sem Bool}
    (hst : starEach (e :: es) X.env = (false, eval e X.env) :: starEach es X.env := by rfl) (hpl : (backTo pos (starEach es X.env)).any (·.1) = false := by rfl)
    (ht : eval (.Call (.Attribute o m apos) (e :: es) [] pos) X.env = (do
      let ov ← eval o X.env
      standAt apos.atName
      let (f, first) ← holding [ov] (getMethod ov m pl)
      callWith pos f first (backTo pos (starEach (e :: es) X.env)) (backToKw pos (keywordEach [] X.env))) := by rfl) : PE X (.Call (.Attribute o m apos) (e :: es) [] pos) (tE G W (mMth c m n fm mo mt)) := by
  obtain ⟨f, fd, ps, h1, h2, h3, h4⟩ := F.ex
  exact PE.imp (pe_mthS (pl := pl) ho h2 h3 h1 (hr.mono hj) h4 (passAt tk) ha hst hpl ht) fun σ H Q x => mth_ok rfl x
theorem me_mth0 (F : Mtd X.prog X.w X.K X.mg X.base G c m k n fm) (hr : Room j X.A) (hj : k ≤ j) (tk : Takes X W) (ho : PE X o (tE G W mo)) {pl : Sem Bool}
    (ht : eval (.Call (.Attribute o m apos) [] [] pos) X.env = (do
      let ov ← eval o X.env
      standAt apos.atName
      let (f, first) ← holding [ov] (getMethod ov m pl)
      callWith pos f first (backTo pos (starEach [] X.env)) (backToKw pos (keywordEach [] X.env))) := by rfl) : PE X (.Call (.Attribute o m apos) [] [] pos) (tE G W (mMth c m n fm mo mNil)) := by
  obtain ⟨f, fd, ps, h1, h2, h3, h4⟩ := F.ex
  refine PE.imp (pe_mth0S (pl := pl) ho h2 h3 h1 (hr.mono hj) h4 (passAt tk) ht) fun σ H Q x => ?_
  have := mth_ok (t := tA G W mNil) rfl x
  unfold tMthS at this ⊢
  obtain ⟨et, env, h, hE, hH, hP⟩ := this
  refine ⟨et, env, h, hE, hH, hP.imp fun et1 H1 h1 x p e hr q v hv => ?_⟩
  obtain ⟨a, dx, fs, e1, e2, e3, et2, env2, h2, hE2, hH2, hP2⟩ := q v hv
  exact ⟨a, dx, fs, e1, e2, e3, hP2 et2 H1 List.prefix_rfl (Ext.refl _) hH2 [] (by rw [DenL])⟩
theorem mk_ok {σ : L2.St} {H : Hp} {Q : VK} (hx : tE G W (mNew c n fm mt) σ H Q) : tMkS (G.C c) (FSp G n fm) (WE W) (tA G W mt) σ H Q := by
  obtain ⟨et, env, h, hE, hH, hP⟩ := hx
  refine ⟨et, env, h, hE, hH, (Pst.of_bind hP).imp fun et1 H1 h1 ds p e hr q vs hvs => ?_⟩
  intro x dx hx hdx ne
  have ex1 : Ext H1 (upd H1 dx (.own x)) := Ext.new hdx
  have r1 : HRel G et1 h1 (upd H1 dx (.own x)) := hr.new hdx
  have hx1 : (upd H1 dx (.own x)) x = none := by rw [upd_ne (Ne.symm ne)]; exact hx
  have ex2 : Ext (upd H1 dx (.own x)) (upd (upd H1 dx (.own x)) x (.ins (G.C c) dx [])) := Ext.new hx1
  have r2 : HRel G (et1 ++ [x]) (h1 ++ [.ins c []]) (upd (upd H1 dx (.own x)) x (.ins (G.C c) dx [])) := r1.push hx1 ⟨dx, [], upd_same, rfl, by
    show DenL G _ _ [] []
    rw [DenL]⟩
  have pf : et1 <+: et1 ++ [x] := List.prefix_append _ _
  have hvs2 := (hvs.mono (List.prefix_rfl (l := et1)) ex1).mono pf ex2
  refine FSp.of_call (ds := .ref h1.length :: ds) (et := et1 ++ [x]) ?_ r2 ?_
  · rw [DenL]
    refine ⟨_, _, rfl, ?_, hvs2⟩
    rw [Den]
    refine ⟨x, ?_, rfl⟩
    rw [← hr.len, List.getElem?_append_right (Nat.le_refl _), Nat.sub_self]
    rfl
  · have q : Pst G et1 H1 ((callC n fm (.ref h1.length :: ds) (h1 ++ [.ins c []])).bind fun d h2 => match d with | .non => R.ok (D.ref h1.length) h2 | _ => .no) _ _ := q
    have q2 := Pst.from_old pf (ex1.trans ex2) (Pst.of_bind q)
    refine q2.imp fun et2 H2 h2 d p2 e2 hr2 q3 v hv => ?_
    cases d with
    | non =>
      have : v = .non := by
        rw [Den] at hv
        exact hv
      refine ⟨this, ?_⟩
      refine q3 et2 H2 List.prefix_rfl (Ext.refl _) hr2 _ ?_
      rw [Den]
      refine ⟨x, ?_, rfl⟩
      obtain ⟨t, rfl⟩ := p2
      rw [← hr.len, List.append_assoc, List.getElem?_append_right (Nat.le_refl _), Nat.sub_self]
      rfl
    | _ => exact q3.elim
theorem me_mk (F : Mkd X.prog X.w X.K X.mg X.base G c k n fm) (hr : Room j X.A) (hj : k + 1 ≤ j) (tk : Takes X W) (ha : PA X (e :: es) (tA G W mt)) (hg : Gl X c := by rfl) (hdb : (c == ("__debug__" : Str)) = false := by decide)
    (he : starEach (e :: es) X.env = (false, eval e X.env) :: starEach es X.env := by rfl) (hpl : (backTo pos (starEach es X.env)).any (·.1) = false := by rfl) : PE X (.Call (.Name c p) (e :: es) [] pos) (tE G W (mNew c n fm mt)) := by
  obtain ⟨f, fd, ps, h1, h2, h3, h4⟩ := F.ex
  exact PE.imp (pe_mkS h2 h1 (hr.mono hj) hg h3 h4 (passAt tk) ha hdb he hpl) fun σ H Q x => mk_ok x
theorem me_mk0 (F : Mkd X.prog X.w X.K X.mg X.base G c k n fm) (hr : Room j X.A) (hj : k + 1 ≤ j) (tk : Takes X W) (hg : Gl X c := by rfl) (hdb : (c == ("__debug__" : Str)) = false := by decide) : PE X (.Call (.Name c p) [] [] pos) (tE G W (mNew c n fm mNil)) := by
  obtain ⟨f, fd, ps, h1, h2, h3, h4⟩ := F.ex
  refine PE.imp (pe_mk0S h2 h1 (hr.mono hj) hg h3 h4 (passAt tk) hdb) fun σ H Q x => ?_
  obtain ⟨et, env, h, hE, hH, hP⟩ := mk_ok (mt := mNil) x
  exact hP et H List.prefix_rfl (Ext.refl _) hH [] (by rw [DenL])
end
/-- what the written part tells of a method, of an __init__ -/
structure MthAt (K : PySem.W.Frag) (C : Addr) (q m : Str) (st : Stmt) (ps : List Str) : Prop where
  ex : ∃ f fd, Fun K m q st f fd ∧ Cls K C ∧ Meth K C m f ∧ Binds K fd ps []
structure InitAt (K : PySem.W.Frag) (mg : Str → Option Value) (C : Addr) (c q : Str) (st : Stmt) (ps : List Str) : Prop where
  ex : ∃ f fd, Fun K "__init__" q st f fd ∧ Mk K C f ∧ mg c = some (.ref C) ∧ Binds K fd ps []
theorem MthAt.mtd {P : Program} {w : World} {K : PySem.W.Frag} {mg : Str → Option Value} {base : Heap} {G : Cf} {c q m : Str} {st : Stmt} {ps : List Str} {k n : Nat} {fm : MF} (d : MthAt K (G.C c) q m st ps) (h : ∀ f fd, Fun K m q st f fd → FnOk P w K mg base (L2.CX P w) k f fd ps (FSp G n fm)) : Mtd P w K mg base G c m k n fm := by
  obtain ⟨f, fd, h1, h2, h3, h4⟩ := d.ex
  exact ⟨f, fd, ps, h f fd h1, h2, h3, h4⟩
theorem InitAt.mkd {P : Program} {w : World} {K : PySem.W.Frag} {mg : Str → Option Value} {base : Heap} {G : Cf} {c q : Str} {st : Stmt} {ps : List Str} {k n : Nat} {fm : MF} (d : InitAt K mg (G.C c) c q st ps) (h : ∀ f fd, Fun K "__init__" q st f fd → FnOk P w K mg base (L2.CX P w) k f fd ps (FSp G n fm)) : Mkd P w K mg base G c k n fm := by
  obtain ⟨f, fd, h1, h2, h3, h4⟩ := d.ex
  exact ⟨f, fd, ps, h f fd h1, h2, h3, h4⟩
/-! ### op= on a field, several fields at once -/
def msAugF (c f : Str) (g : D → D → IH → R D) (mo me : ME) : MS := fun env h => (mo env h).bindS env fun x h1 => match (insAt c h1 x).bind (List.lookup f) with
  | some v => (me env h1).bindS env fun y h2 => (g v y h2).bindS env fun z h3 => match putAtF c f z h3 x with
    | some h4 => .nx env h4
    | none => .no
  | none => .no
section
variable {X : Cx} {G : Cf} {W : WX} {o e value : Expr} {c f : Str} {pos pos' tpos : Pos} {mo me : ME} {r : R2} {g : D → D → IH → R D}
/-- a field is written -/
theorem putAtF_ok {et : List Addr} {H : Hp} {h h' : IH} {x d : D} {u v : V} (hr : HRel G et h H) (hu : Den G et H x u) (hv : Den G et H d v) (q : putAtF c f d h x = some h') : ∃ a dx ws, u = .ref a ∧ H a = some (.ins (G.C c) dx ws) ∧ ws.length < 1000 ∧
    Ext H (upd H a (.ins (G.C c) dx (putF f v ws))) ∧ HRel G et h' (upd H a (.ins (G.C c) dx (putF f v ws))) := by
  unfold putAtF at q
  cases x with
  | ref n =>
    dsimp only at q
    cases hi : insAt c h (.ref n) with
    | none => rw [hi] at q; cases q
    | some fs =>
      rw [hi] at q
      dsimp only at q
      split at q
      · rename_i hl
        cases q
        obtain ⟨n', a, dx, ws, en, hn, ha, rfl, h3, h4⟩ := insAt_den hr hu hi
        cases en
        have ex : Ext H (upd H a (.ins (G.C c) dx (putF f v ws))) := Ext.mut h3 True.intro
        exact ⟨a, dx, ws, rfl, h3, (by rw [h4.len]; omega), ex, hr.set hn ha rfl h3 True.intro ⟨dx, _, upd_same, ((DenK.put hv f h4).mono List.prefix_rfl ex)⟩⟩
      · cases q
  | _ => cases q
theorem ms_augF {op : Operator} (hK : X.K = G.K) (k : Cls X.K (G.C c)) (na : NoAttr X.K (G.C c) f) (hop : OpR X (inplaceOp op) r) (hs : OpS G r g) (ho : PE X o (tE G W mo)) (hv : PE X value (tE G W me)) : PS X (.AugAssign (.Attribute o f tpos) op value pos) (tS G W (msAugF c f g mo me)) := PS.imp (ps_fldaug ho hv hop) fun D σ H ⟨et, env, h, hE, hH, hP⟩ => by
  refine ⟨et, env, h, hE, hH, (PstS.of_bind hE hP).imp fun et1 H1 h1 x p e hr q v hv => ?_⟩
  cases hi : insAt c h1 x with
  | none => rw [hi] at q; exact q.elim
  | some fs =>
    rw [hi] at q
    obtain ⟨n, a, dx, ws, rfl, hn, ha, rfl, h3, h4⟩ := insAt_den hr hv hi
    have hl := h4.look f
    cases hf : fs.lookup f with
    | none =>
      have q : PstS G et1 H1 (match fs.lookup f with | some v => _ | none => RS.no) _ _ := q
      rw [hf] at q
      exact q.elim
    | some d =>
      have q : PstS G et1 H1 (match fs.lookup f with | some v => _ | none => RS.no) _ _ := q
      rw [hf] at q hl
      obtain ⟨w, e1, e2⟩ := hl
      refine ⟨a, _, dx, ws, w, rfl, h3, k, na, e1, et1, env, h1, hE.mono p e, hr, (PstS.of_bind (hE.mono p e) q).imp fun et2 H2 h2 y p2 e2' hr2 q2 u hu => ?_⟩
      refine hs et2 H2 h2 d y w u _ _ (e2.mono p2 e2') hu hr2 ((PstS.of_bind ((hE.mono p e).mono p2 e2') q2).imp fun et3 H3 h3' z p3 e3 hr3 q3 t ht => ?_)
      cases hp : putAtF c f z h3' (.ref n) with
      | none => rw [hp] at q3; exact q3.elim
      | some h5 =>
        rw [hp] at q3
        obtain ⟨a', dx', ws', ea, h6, hl', ex, hr5⟩ := putAtF_ok hr3 ((hv.mono p2 e2').mono p3 e3) ht hp
        cases ea
        exact ⟨dx', ws', h6, hl', q3 et3 _ σ List.prefix_rfl ex hr5 ((((hE.mono p e).mono p2 e2').mono p3 e3).mono List.prefix_rfl ex)⟩
end
/-- fields of the instance in a slot -/
def setFs (c : Str) (i : Nat) : List Str → List D → EV → IH → RS
  | [], [], env, h => .nx env h
  | f :: fs, d :: ds, env, h => match env[i]? with
    | some (some x) => match putAtF c f d h x with
      | some h1 => setFs c i fs ds env h1
      | none => .no
    | _ => .no
  | _, _, _, _ => .no
def msSetTF (c : Str) (fs : List Str) (i : Nat) (me : ME) : MS := fun env h => (me env h).bindS env fun d h1 => match d with
  | .tup ds => if ds.length = fs.length then setFs c i fs ds env h1 else .no
  | _ => .no
def gFld (K : PySem.W.Frag) (to : TE) (f : Str) : TG := fun v σ H Q => to σ H fun x H1 => ∃ a C dx ws, x = .ref a ∧ H1 a = some (.ins C dx ws) ∧ Cls K C ∧ NoAttr K C f ∧ ws.length < 1000 ∧ Q σ (upd H1 a (.ins C dx (putF f v ws)))
section
variable {X : Cx} {G : Cf} {W : WX} {o e value : Expr} {c f : Str} {pos pos' tpos : Pos} {mo me : ME} {to : TE}
theorem pg_fld (ho : PE X o to)
    (ha : ∀ v, assign (.Attribute o f pos) X.env v = (do
      let ov ← holding [v] (eval o X.env)
      standAt pos.atName
      holding [v, ov] (setAttr ov f v)
      release [v, ov] []) := by intro _; rfl) : PG X (.Attribute o f pos) (gFld X.K to f) := by
  refine ⟨fun pins s σ H v u Q I r h => ?_⟩
  rw [ha]
  refine wpAny_bind (wpAny_holding (thn (ho.run pins s σ H _ I h) fun ov s1 ⟨x, H1, I1, r1, a, C, dx, ws, ex, ea, k, n, l, q1⟩ => ?_))
  subst ex
  obtain rfl : ov = Value.ref a := r1
  refine wpAny_bind (wpAny_standAt (wpAny_bind (wpAny_holding (setattr_ok I1 ea k n l r fun s3 I3 => ?_))))
  exact wpAny_release ⟨σ, _, I3, q1⟩
inductive PGF (X : Cx) (G : Cf) (c : Str) (i : Nat) (W : WX) : List Str → List Expr → TGs → Prop
  | nil : PGF X G c i W [] [] gNil
  | cons {f : Str} {fs : List Str} {e : Expr} {es : List Expr} {t : TGs} : NoAttr X.K (G.C c) f → PG X e (gFld X.K (tE G W (mVar i)) f) → PGF X G c i W fs es t → (assignEach (e :: es) X.env).map (·.2) = assign e X.env :: (assignEach es X.env).map (·.2) → PGF X G c i W (f :: fs) (e :: es) (gCons (gFld X.K (tE G W (mVar i)) f) t)
theorem PGF.pgs {i : Nat} {fs : List Str} {es : List Expr} {t : TGs} (h : PGF X G c i W fs es t) : PGs X es t := by
  induction h with
  | nil => exact pgs_nil
  | cons h1 h2 h3 h4 ih => exact pgs_cons h2 ih h4
theorem PGF.run {i : Nat} {fs : List Str} {es : List Expr} {t : TGs} (hK : X.K = G.K) (k : Cls X.K (G.C c)) (h : PGF X G c i W fs es t) {et : List Addr} {H : Hp} {env : EV} {hh : IH} {σ : L2.St} {ds : List D} {vs : List V} {D' : Ends} (hE : EnvR G et H env σ) (hR : HRel G et hh H) (hD : DenL G et H ds vs)
    (q : PstS G et H (setFs c i fs ds env hh) D' W) : t vs σ H D'.nx := by
  induction h generalizing et H hh ds vs with
  | nil =>
    cases ds with
    | nil => rw [denL_nil] at hD; exact ⟨hD, q et H σ List.prefix_rfl (Ext.refl H) hR hE⟩
    | cons _ _ => exact q.elim
  | cons h1 h2 h3 h4 ih =>
    cases ds with
    | nil => exact q.elim
    | cons d ds =>
      obtain ⟨v, ws, rfl, r1, r2⟩ := denL_cons.mp hD
      refine ⟨v, ws, rfl, et, env, hh, hE, hR, ?_⟩
      unfold setFs at q
      unfold mVar
      split at q
      · rename_i x hx
        try rw [hx]
        intro et1 H1 p1 e1 hR1 u hu
        split at q
        · rename_i g hp
          obtain ⟨a, dx, ws', rfl, h6, hl', ex, hr5⟩ := putAtF_ok hR1 hu (r1.mono p1 e1) hp
          exact ⟨a, _, dx, ws', rfl, h6, k, h1, hl', ih ((hE.mono p1 e1).mono List.prefix_rfl ex) hr5 ((r2.mono p1 e1).mono List.prefix_rfl ex) (PstS.weak p1 (e1.trans ex) q)⟩
        · exact q.elim
      · exact q.elim
theorem ms_setTF {i n kk : Nat} {fs : List Str} {es : List Expr} {t : TGs} (hK : X.K = G.K) (hc : X.calm = true) (k : Cls X.K (G.C c)) (h : PGF X G c i W fs es t) (hv : PE X value (tE G W me)) (hln : fs.length = n := by rfl) (hn : (assignEach es X.env).length = n := by rfl) (hst : (assignEach es X.env).findIdx? (·.1) = none := by rfl)
    (hs : swapsWithSole [.Tuple es kk pos'] value pos.line X.env = pure false := by rfl) (hw : swappedStores [.Tuple es kk pos'] value X.env = pure none := by rfl) (h1 : (assignEach [.Tuple es kk pos'] X.env).map (·.2) = [assign (.Tuple es kk pos') X.env] := by rfl) :
    PS X (.Assign [.Tuple es kk pos'] value pos) (tS G W (msSetTF c fs i me)) := PS.imp (ps_asg hv (pg_tup hc h.pgs hn hst) hs hw h1) fun D σ H ⟨et, env, h0, hE, hH, hP⟩ => by
  refine ⟨et, env, h0, hE, hH, (PstS.of_bind hE hP).imp fun et1 H1 h1 d p e hr q v hv => ?_⟩
  cases d with
  | tup ds =>
    obtain ⟨a, vs, rfl, r1, r2⟩ := den_tup.mp hv
    have q : PstS G et1 H1 (if ds.length = fs.length then setFs c i fs ds env h1 else .no) D W := q
    split at q
    · rename_i l
      exact ⟨a, vs, rfl, r1.sq, by rw [r2.len, l, hln], h.run hK k (hE.mono p e) hr r2 q⟩
    · exact q.elim
  | _ => exact q.elim
end
/-- list.clear -/
theorem fClear_ok {G : Cf} : MethS G rClear fClear := by
  intro et H h x v xs vs W Q rx rv R p
  unfold fClear at p
  split at p
  · split at p
    · rename_i n _ ys hx
      obtain ⟨a, us, h2, rfl, h3, h4⟩ := den_list R hx rx
      refine ⟨a, us, rfl, by simpa using rv, h3, ?_⟩
      have ex : Ext H (upd H a (.lst [])) := Ext.mut h3 True.intro
      exact p et _ List.prefix_rfl ex (R.set hx h2 rfl h3 True.intro ⟨_, upd_same, by rw [DenL]⟩) _ (by simp)
    · exact p.elim
  · exact p.elim
end NR

set_option Elab.async false
set_option linter.all false
set_option maxRecDepth 100000
set_option maxHeartbeats 4000000
namespace NR
open PySem PySem.Spec PyProof.Rows L2
/-! equations for fields, methods; comprehensions over lists in the heap -/
section
variable {c f : Str} {m mo me : ME} {ma : MA} {env : EV} {h : IH} {g : D → D → IH → R D} {n : Nat} {fm : MF}
@[simp] theorem ap_mFld : mFld c f mo env h = (mo env h).bind fun x h1 => match (insAt c h1 x).bind (List.lookup f) with
  | some d => .ok d h1
  | none => .no := rfl
@[simp] theorem ap_msSetF : msSetF c f mo me env h = (me env h).bindS env fun d h1 => (mo env h1).bindS env fun x h2 => match putAtF c f d h2 x with
  | some h3 => .nx env h3
  | none => .no := rfl
@[simp] theorem ap_msAugF : msAugF c f g mo me env h = (mo env h).bindS env fun x h1 => match (insAt c h1 x).bind (List.lookup f) with
  | some v => (me env h1).bindS env fun y h2 => (g v y h2).bindS env fun z h3 => match putAtF c f z h3 x with
    | some h4 => .nx env h4
    | none => .no
  | none => .no := rfl
@[simp] theorem ap_mMth : mMth c f n fm mo ma env h = (mo env h).bind fun x h1 => match insAt c h1 x with
  | some fs => if noLook f fs = true then (ma env h1).bind fun ds h2 => callC n fm (x :: ds) h2 else .no
  | none => .no := rfl
@[simp] theorem ap_mNew : mNew c n fm ma env h = (ma env h).bind fun ds h1 => (callC n fm (.ref h1.length :: ds) (h1 ++ [.ins c []])).bind fun d h2 => match d with
  | .non => .ok (.ref h1.length) h2
  | _ => .no := rfl
@[simp] theorem ap_msSetTF {fs : List Str} {i : Nat} : msSetTF c fs i me env h = (me env h).bindS env fun d h1 => match d with
  | .tup ds => if ds.length = fs.length then setFs c i fs ds env h1 else .no
  | _ => .no := rfl
theorem insAt_ref {k : Nat} {fs : List (Str × D)} (e : h[k]? = some (.ins c fs)) : insAt c h (.ref k) = some fs := by
  unfold insAt
  dsimp only
  rw [e]
  exact if_pos rfl
theorem putAtF_ref {k : Nat} {fs : List (Str × D)} {d : D} (e : h[k]? = some (.ins c fs)) (l : fs.length ≤ 100) : putAtF c f d h (.ref k) = some (h.set k (.ins c (putFD f d fs))) := by
  unfold putAtF
  dsimp only
  rw [insAt_ref e]
  exact if_pos l
/-- a comprehension over a source that stays -/
theorem lcF_mapS {it : MI} {gg : MG} {ws : List Nat} {src : Src} {ds : List D} (F : D → D) (hi : it env h = .ok src h) (so : ∀ x, src.ok (h ++ [x]) = true) (sg : ∀ x i, src.get (h ++ [x]) i = ds[i]?) (sm : src.many h = ds.length) (hl : ds.length ≤ 9000000) (lo : ∀ d ∈ ds, D.lo h.length (F d) = true)
    (step : ∀ d ∈ ds, ∃ e1, gg d (wipeE env ws) = some e1 ∧ ∀ x, m e1 (h ++ [x]) = .ok (F d) (h ++ [x])) : mFz (mLc it gg mYes m ws) env h = .ok (.fl (ds.map F)) h := by
  have main : ∀ k i, i + k = ds.length + 1 → i ≤ ds.length → lcM src gg mYes m h.length k i (wipeE env ws) (h ++ [Cell.lst ((ds.take i).map F)]) = .ok (.ref h.length) (h ++ [Cell.lst (ds.map F)]) := by
    intro k
    induction k with
    | zero =>
      intro i e l
      omega
    | succ k ih =>
      intro i e l
      unfold lcM
      rw [if_pos (so _), sg]
      cases hd : ds[i]? with
      | none =>
        have := List.getElem?_eq_none_iff.mp hd
        rw [List.take_of_length_le this]
      | some d =>
        have hi' := (List.getElem?_eq_some_iff.mp hd).1
        obtain ⟨e1, g1, st⟩ := step d (List.mem_of_getElem? hd)
        dsimp only
        rw [g1]
        dsimp only
        unfold mYes
        dsimp only
        rw [st]
        dsimp only
        rw [get_last]
        dsimp only
        rw [if_pos (by rw [List.length_map, List.length_take]; omega), set_app0]
        have : (ds.take i).map F ++ [F d] = (ds.take (i + 1)).map F := by
          rw [List.take_add_one, hd, List.map_append]
          rfl
        rw [this]
        exact ih (i + 1) (by omega) hi'
  rw [ap_mFz0, ap_mLc, hi]
  show fzR h (lcM _ _ _ _ _ _ _ _ _) = _
  have := main (ds.length + 1) 0 (by omega) (Nat.zero_le _)
  rw [List.take_zero, List.map_nil] at this
  rw [sm, this, fzR_at get_last (Nat.le_refl _) (loL_of fun x hx => by obtain ⟨d, hd, rfl⟩ := List.mem_map.mp hx; exact lo d hd) okB_self]
  simp
/-- a list in the heap as a source -/
theorem src_ls {k : Nat} {ds : List D} (e : h[k]? = some (.lst ds)) : (Src.ls k).ok h = true ∧ (∀ i, (Src.ls k).get h i = ds[i]?) ∧ (Src.ls k).many h = ds.length := by
  have l := lstOf_ref e
  refine ⟨?_, fun i => ?_, ?_⟩
  · show (lstOf h (.ref k)).isSome = true
    rw [l]; rfl
  · show (lstOf h (.ref k)).bind _ = _
    rw [l]; rfl
  · show ((lstOf h (.ref k)).getD []).length = _
    rw [l]; rfl
theorem iSeq_ls {k : Nat} {ds : List D} (e1 : me env h = .ok (.ref k) h) (e : h[k]? = some (.lst ds)) : iSeq me env h = .ok (.ls k) h := by
  rw [ap_iSeq, e1, bind_ok]
  dsimp only
  rw [lstOf_ref e]
  rfl
/-- a for over a source that is read of the heap, whose turns leave the heap -/
theorem for_src_nx {it : MI} {gg : MG} {b : MS} {h2 : IH} {src : Src} {ds : List D} (Q : EV → Prop) (e : it env h = .ok src h2) (o : src.ok h2 = true) (ge : ∀ i, src.get h2 i = ds[i]?) (mn : src.many h2 = ds.length) (q0 : Q env)
    (turn : ∀ (i : Nat) (d : D) (env : EV), ds[i]? = some d → Q env → ∃ e1 e2, gg d env = some e1 ∧ b e1 h2 = .nx e2 h2 ∧ Q e2) : ∃ e2, msFor it gg b env h = .nx e2 h2 ∧ Q e2 := by
  have go : ∀ (m i : Nat) (env : EV), Q env → ds.length < m + i → i ≤ ds.length → ∃ e2, forM src gg b m i env h2 = .nx e2 h2 ∧ Q e2 := by
    intro m
    induction m with
    | zero =>
      intro i env q l l2
      omega
    | succ m ih =>
      intro i env q l l2
      unfold forM
      rw [if_pos o, ge i]
      cases hd : ds[i]? with
      | none => exact ⟨env, rfl, q⟩
      | some d =>
        obtain ⟨e1, e2, g1, g2, q2⟩ := turn i d env hd q
        dsimp only
        rw [g1]
        dsimp only
        rw [g2]
        exact ih (i + 1) e2 q2 (by omega) (List.getElem?_eq_some_iff.mp hd).1
  rw [ap_msFor, e, bindS_ok, mn]
  exact go _ 0 env q0 (by omega) (Nat.zero_le _)
end
end NR

set_option Elab.async false
set_option linter.all false
set_option maxRecDepth 100000
set_option maxHeartbeats 4000000
/-! sorted(set(list of whole numbers)) -/
namespace L2
open PySem PySem.Spec PyProof.Rows
/-- the empty set as it is made -/
abbrev mtSet (w : World) : Obj := { cls := .type "set", dict := none, data := .set #[] 0 (.fresh 0 0 (!w.params.followText "set-order")) }
section
variable {P : Program} {w : World} {A : Around} {E : Value → Shared → Prop} {s : Shared}
set_option maxHeartbeats 8000000 in
theorem set_of_list {l : Addr} {its : Array Value} (ks : List Int) {Q : Value → Shared → Prop} (nh : A.handled = none) (il : s.heap.IsList l its) (ia : IntsAre its.toList ks) (few : ks.length + 1 < scanBound)
    (go : ∀ (g : Heap) (tk c : Nat), SetR w g s.heap.objs.size (fun j => decide (j ∈ ks)) c → (∀ b o, s.heap.get? b = some o → g.get? b = some o) → Q (.ref s.heap.objs.size) { s with heap := g, toks := tk }) :
    wpAny (model P w) A (call (.type "set") [.ref l]) Q E s := by
  have iz : its.size = ks.length := by
    rw [← Array.length_toList]
    exact IntsAre.length ia
  obtain ⟨cc, tl, mro⟩ := F.called_set.mro
  have f1 := F.called_set.made
  have f2 := F.called_set.sub
  refine wpAny_call (codeAny_of_tree ?_)
  show wpAny _ _ (callAny (.type "set") _) _ _ _
  refine wpAny_pure ⟨Code.quiet_builtin _ (by decide +kernel), ?_⟩
  refine codeAny_builtin F.entry_type_call ?_
  rw [Around.under_plain (weight_type_call_type "set" [.ref l] []) rfl]
  have f3 := F.called_set.notType
  have f4 := F.called_set.canCreate
  have f5 := F.typeCall_set_1 (.ref l)
  repeat any_goals first | assumption | wp_step
  refine codeAny_mono (code_set_led1 (.ref l) (E := E) (Q₁ := fun o t => o = .ref s.heap.objs.size ∧ t = { s with heap := s.heap.push (mtSet w) }) ⟨rfl, rfl⟩) ?_
  intro r t hr
  cases r with
  | error e => exact hr
  | ok fl =>
    cases fl with
    | ret ob =>
      obtain ⟨rfl, rfl⟩ := hr
      have at0 : (s.heap.push (mtSet w)).get? s.heap.objs.size = some (mtSet w) := Heap.get?_push_size _ rfl
      have ty0 : Shared.TypeIs { s with heap := s.heap.push (mtSet w) } (.ref s.heap.objs.size) "set" := ⟨_, at0, rfl⟩
      have f6 := F.called_set.init.lookup
      have f7 := F.called_set.init.bind (.ref s.heap.objs.size)
      repeat any_goals first | assumption | wp_step
      refine codeAny_mono (codeAny_call_builtin (R := wants (fun r t => r = .none ∧ ∃ g tk c, t = { s with heap := g, toks := tk } ∧ SetR w g s.heap.objs.size (fun j => decide (j ∈ ks)) c ∧ (∀ b o, s.heap.get? b = some o → g.get? b = some o)) E)
        F.called_set.init.plain F.entry_set_init (check_set_init_1 ty0 ?_)) ?_
      · obtain ⟨⟨oc, od, oo, os⟩, ol, oc1, nn, od1⟩ := il
        simp only at oc1 od1
        subst oc1 od1
        have at1 : (s.heap.push (mtSet w)).get? l = some { cls := .type "list", dict := od, data := .seq its nn, slots := os } := Heap.get?_push_of_some _ ol
        have f8 := F.sub_list_set
        have f9 := F.sub_list_frozenset
        have f10 : (Value.type "list" == Value.type "dict") = false := by decide
        have il1 : (s.heap.push (mtSet w)).IsList l its := ⟨_, at1, rfl, nn, rfl⟩
        have lt0 : l < s.heap.objs.size := Heap.lt_size ol
        unfold Builtin.«set.__init__» noKeywords
        unfold Builtin.Frozenset.updateFrom
        generalize eI : pyIter = pI
        wp_walk
        subst eI
        refine wpAny_pyIter_list il1 (wpAny_bind (wpAny_runValue ?_))
        have nh3 : A.in1.in1.in1.handled = none := by simp [nh]
        have ne1 : l ≠ (s.heap.push (mtSet w)).objs.size := by
          rw [Heap.size_push]
          exact Nat.ne_of_lt (Nat.lt_succ_of_lt lt0)
        have nf : s.heap.objs.size ∉ [(s.heap.push (mtSet w)).objs.size, l] := by
          rw [Heap.size_push]
          intro z
          rcases List.mem_cons.mp z with z | z
          · exact Nat.ne_of_lt (Nat.lt_succ_self _) z
          · exact Nat.ne_of_gt lt0 (List.mem_singleton.mp z)
        have val : ∀ (i : Nat) (v : Value), its[i]? = some v → ∃ k t, ks[i]? = some k ∧ v = .int k t := by
          intro i v hv
          have hi : i < ks.length := by
            have := (Array.getElem?_eq_some_iff.mp hv).1
            omega
          obtain ⟨t, e⟩ := PyProof.Rows.IntsAre.int_at ia i v (by rw [Array.getElem?_toList]; exact hv)
          rw [List.getD_eq_getElem?_getD, List.getElem?_eq_getElem hi] at e
          exact ⟨ks[i], t, List.getElem?_eq_getElem hi, e⟩
        refine set_update_ints ((Walks.list nh3 _ l ne1 its).toS) s.heap.objs.size nf ks iz few val (its.size - 0) 0 _ (by omega) (Nat.zero_le _) ⟨⟨_, Heap.get?_push_size _ rfl, rfl, rfl⟩, (il1.push _)⟩ ?st ?en
        case st => exact ⟨0, Nat.le_refl 0, setR_new_at (Heap.get?_push_of_some _ at0)⟩
        case en =>
          rintro ⟨g, g2, d2, tk, o2⟩ c mv cl S2
          have q1 : g2 = s.gens := mv.gens
          have q2 : d2 = s.drawn := mv.drawn
          have q3 : o2 = s.os := mv.os
          subst q1 q2 q3
          show wpAny _ _ _ _ _ _
          refine wpAny_pure ?_
          show wpAny _ _ (ret Value.none) _ _ _
          refine wpAny_pure ⟨rfl, g, tk, c, rfl, S2, fun b o e => ?_⟩
          have bl : b < s.heap.objs.size := Heap.lt_size e
          refine mv.heap b o ?_ (Heap.get?_push_of_some _ (Heap.get?_push_of_some _ e))
          rw [Heap.size_push]
          intro z
          rcases List.mem_cons.mp z with z | z
          · exact Nat.ne_of_lt bl z
          · exact Nat.ne_of_lt (Nat.lt_succ_of_lt bl) (List.mem_singleton.mp z)
      · intro r2 t2 hr2
        cases r2 with
        | error e => exact hr2
        | ok fl2 =>
          cases fl2 with
          | ret r =>
            obtain ⟨rfl, g, tk, c, rfl, S2, kp⟩ := hr2
            repeat any_goals first | assumption | wp_step
            exact go _ _ _ S2 kp
          | _ => exact hr2.elim
    | _ => exact hr.elim
end
/-- set(xs) of whole numbers -/
def rSetOfL (K : PySem.W.Frag) (w : World) : List V → Hp → VK → Prop := fun xs H Q => ∃ (l : Addr) (ns : List Int), xs = [.ref l] ∧ SqL K H l (ns.map V.int) ∧ ns.length ≤ 4000 ∧
  ∀ (a : Addr) (c : Nat), H a = none → (∃ ks : List Int, ks.Nodup ∧ (∀ k, k ∈ ks ↔ k ∈ ns) ∧ ks.length = c) → Q (.ref a) (upd H a (SetO w a (fun j => decide (j ∈ ns)) c))
theorem cr_setOfL {X : Cx} (hc : X.calm = true) : CallR X (.type "set") (rSetOfL X.K X.w) := by
  intro pins s σ H xs us Q I r h
  obtain ⟨l, ns, rfl, hs, hl, q⟩ := h
  rw [Vals.ref1 r]
  obtain ⟨its, rv, pl, hz⟩ := I.list hs
  refine set_of_list ns (I.ok.hd hc) pl.isList (by simpa using ints_of_vals rv) (by unfold scanBound; omega) fun g tk c S kp => ?_
  have new : H s.heap.objs.size = none := I.hok.fresh (Nat.le_refl _)
  refine ⟨.ref _, upd H s.heap.objs.size (SetO X.w s.heap.objs.size (fun j => decide (j ∈ ns)) c), I.laid (t' := tk) (fun b u e => kp b u e) (Nat.le_refl _) (setO_new S), rfl, q _ _ new ?_⟩
  obtain ⟨o, es, ep, t, ho, hx, hd, ge, nd, mem, sb, ft, sz, _⟩ := S
  refine ⟨es.toList.map keyOf, nd, fun k => (mem k).symm.trans (by simp), ?_⟩
  rw [List.length_map, Array.length_toList, sz]
end L2
namespace NR
open PySem PySem.Spec PyProof.Rows L2
/-- the unlike ones, rising -/
def insU (a : Int) : List Int → List Int
  | [] => [a]
  | b :: l => if a < b then a :: b :: l else if a = b then b :: l else b :: insU a l
def usrt : List Int → List Int
  | [] => []
  | a :: l => insU a (usrt l)
theorem mem_insU {a k : Int} : ∀ {l : List Int}, k ∈ insU a l ↔ k = a ∨ k ∈ l
  | [] => by simp [insU]
  | b :: l => by
    have ih := mem_insU (a := a) (k := k) (l := l)
    unfold insU
    split
    · simp
    · split
      · rename_i e
        subst e
        simp
      · simp [ih]
        constructor
        · rintro (h | h | h)
          · exact .inr (.inl h)
          · exact .inl h
          · exact .inr (.inr h)
        · rintro (h | h | h)
          · exact .inr (.inl h)
          · exact .inl h
          · exact .inr (.inr h)
theorem insU_up {a : Int} : ∀ {l : List Int}, l.Pairwise (· < ·) → (insU a l).Pairwise (· < ·)
  | [], _ => by simp [insU]
  | b :: l, h => by
    have h' := List.pairwise_cons.mp h
    unfold insU
    split
    · rename_i e
      refine List.pairwise_cons.mpr ⟨fun c hc => ?_, h⟩
      rcases List.mem_cons.mp hc with rfl | hc
      · exact e
      · have := h'.1 c hc
        omega
    · split
      · exact h
      · rename_i e1 e2
        refine List.pairwise_cons.mpr ⟨fun c hc => ?_, insU_up h'.2⟩
        rcases mem_insU.mp hc with rfl | hc
        · omega
        · exact h'.1 c hc
theorem usrt_up : ∀ {l : List Int}, (usrt l).Pairwise (· < ·)
  | [] => List.Pairwise.nil
  | a :: l => insU_up usrt_up
theorem mem_usrt {k : Int} : ∀ {l : List Int}, k ∈ usrt l ↔ k ∈ l
  | [] => by simp [usrt]
  | a :: l => by rw [usrt, mem_insU, mem_usrt, List.mem_cons]
theorem up_ext : ∀ {l m : List Int}, l.Pairwise (· < ·) → m.Pairwise (· < ·) → (∀ k, k ∈ l ↔ k ∈ m) → l = m
  | [], [], _, _, _ => rfl
  | [], b :: m, _, _, h => by simpa using (h b).mpr List.mem_cons_self
  | a :: l, [], _, _, h => by simpa using (h a).mp List.mem_cons_self
  | a :: l, b :: m, hl, hm, h => by
    have hl' := List.pairwise_cons.mp hl
    have hm' := List.pairwise_cons.mp hm
    have e : a = b := by
      have h1 := (h a).mp List.mem_cons_self
      have h2 := (h b).mpr List.mem_cons_self
      rcases List.mem_cons.mp h1 with h1 | h1
      · exact h1
      · rcases List.mem_cons.mp h2 with h2 | h2
        · exact h2.symm
        · have := hl'.1 b h2
          have := hm'.1 a h1
          omega
    subst e
    rw [up_ext hl'.2 hm'.2 fun k => ?_]
    constructor
    · intro hk
      rcases List.mem_cons.mp ((h k).mp (List.mem_cons_of_mem _ hk)) with e | e
      · have := hl'.1 k hk
        omega
      · exact e
    · intro hk
      rcases List.mem_cons.mp ((h k).mpr (List.mem_cons_of_mem _ hk)) with e | e
      · have := hm'.1 k hk
        omega
      · exact e
theorem usrt_eq {l m : List Int} (h : m.Pairwise (· < ·)) (e : ∀ k, k ∈ m ↔ k ∈ l) : m = usrt l := up_ext h usrt_up fun k => (e k).trans mem_usrt.symm
theorem nodup_of_up {l : List Int} (h : l.Pairwise (· < ·)) : l.Nodup := h.imp fun h e => by omega
theorem card_usrt {l ks : List Int} (nd : ks.Nodup) (e : ∀ k, k ∈ ks ↔ k ∈ l) : ks.length = (usrt l).length := by
  have : ks.Perm (usrt l) := (List.perm_ext_iff_of_nodup nd (nodup_of_up usrt_up)).mpr fun k => (e k).trans mem_usrt.symm
  exact this.length_eq
/-- sorted(set(m)) -/
def mSS (m : ME) : ME := fun env h => (m env h).bind fun x h1 => match (lstOf h1 x).bind (allM D.int?) with
  | some ns => if ns.length ≤ 4000 ∧ (usrt ns).length < 64 then .ok (.ref h1.length) (h1 ++ [.lst ((usrt ns).map D.int)]) else .no
  | none => .no
theorem me_sortset {X : Cx} {G : Cf} {W : WX} {e : Expr} {me : ME} {p p2 q pos : Pos} (hK : X.K = G.K) (hc : X.calm = true) (he : PE X e (tE G W me)) (z1 : X.mg "sorted" = none) (z2 : X.mg "set" = none) (hg : Gl X "sorted" := by rfl) (hg2 : Gl X "set" := by rfl)
    (s1 : starEach [e] X.env = (false, eval e X.env) :: starEach [] X.env := by rfl) (s2 : starEach [.Call (.Name "set" p2) [e] [] q] X.env = (false, eval (.Call (.Name "set" p2) [e] [] q) X.env) :: starEach [] X.env := by rfl)
    (l1 : (backTo q (starEach [] X.env)).any (·.1) = false := by rfl) (l2 : (backTo pos (starEach [] X.env)).any (·.1) = false := by rfl) :
    PE X (.Call (.Name "sorted" p) [.Call (.Name "set" p2) [e] [] q] [] pos) (tE G W (mSS me)) := by
  refine PE.imp (pe_callB (cr_sortedSet hc) hg z1 (by decide +kernel) (pa_cons (pe_callTy (cr_setOfL hc) hg2 z2 (by decide +kernel) (pa_cons he pa_nil s1) (by decide) (by decide) s1 l1) pa_nil s2) (by decide) (by decide) s2 l2) ?_
  intro σ H Q ⟨et, env, h, hE, hH, hP⟩
  refine ⟨et, env, h, hE, hH, (Pst.of_bind hP).imp fun et1 H1 h1 x p e hr qq v hv => ?_⟩
  cases en : (lstOf h1 x).bind (allM D.int?) with
  | none => rw [en] at qq; exact qq.elim
  | some ns =>
    rw [en] at qq
    dsimp only at qq
    split at qq
    · rename_i c
      obtain ⟨a, rfl, sq⟩ := ints_den hr en hv
      refine ⟨a, ns, rfl, by rw [hK]; exact sq, c.1, fun b k nb ⟨ks, nd, me, kc⟩ => ?_⟩
      have kc2 : k = (usrt ns).length := kc.symm.trans (card_usrt nd me)
      refine ⟨b, _, k, rfl, upd_same, by omega, fun ms p2 up mm ml np => ?_⟩
      have em : ms = usrt ns := usrt_eq up fun k => (mm k).trans (by simp)
      subst em
      have R2 := hr.new (o := SetO X.w b (fun j => decide (j ∈ ns)) k) nb
      refine qq (et1 ++ [p2]) _ (List.prefix_append _ _) ((Ext.new nb).trans (Ext.new np)) (R2.push np ⟨_, upd_same, DenL.ofInts⟩) _ (den_ref.mpr ⟨p2, ?_, rfl⟩)
      rw [← hr.len, List.getElem?_append_right (Nat.le_refl _), Nat.sub_self]
      rfl
    · exact qq.elim
end NR

set_option Elab.async false
set_option linter.all false
set_option maxRecDepth 100000
set_option maxHeartbeats 4000000
namespace NR
open PySem PySem.Spec PyProof.Rows L2
/-! ### tuple * 0 -/
theorem tuple_mul0 (l : Addr) (items : Array Value) (n : Nat) (dd : Option Addr) (sl : Array (Option Value)) (u : Tok) (c1 : (items.isEmpty || (0 : Int) == 1) = false) :
    Meets (Builtin.«tuple.__mul__» ⟨[.ref l, .int 0 u], []⟩) (fun _ R s => s.heap.get? l = some { cls := .type "tuple", dict := dd, data := .seq items n, slots := sl } ∧
      R (.ok (.ret (Value.ref s.heap.objs.size))) { s with heap := s.heap.push { cls := Value.type "tuple", data := Data.seq #[] }, toks := s.toks }) :=
  .of_wp fun prog w A R s h => by
    obtain ⟨hp, g, d, tk, os⟩ := s
    obtain ⟨hl, h⟩ := h
    have f1 := AutoSeq1.idx_int
    wp_walk using wpAny_loadPart' hl
    repeat (first
      | (refine wpAny_ite_false (decide_eq_false (by rw [c1]; exact Bool.false_ne_true)) ?_; wp_walk using wpAny_loadPart' hl)
      | (refine wpAny_ite_true (decide_eq_true (by rfl)) ?_; wp_walk using wpAny_loadPart' hl))
    exact ⟨_, rfl, h⟩
def rRepT0 (K : PySem.W.Frag) : R2 := fun x y H Q => ∃ l xs, x = .ref l ∧ y = .int 0 ∧ SqT K H l xs ∧ xs ≠ [] ∧ ∀ p, H p = none → Q (.ref p) (upd H p (.tup []))
section
variable {X : Cx}
theorem op_repT0 : OpR X (binaryOp .Mult) (rRepT0 X.K) := by
  intro pins s σ H x y v u Q I rx ry h
  obtain ⟨l, xs, rfl, rfl, hT, hne, q⟩ := h
  cases rx
  obtain ⟨t, rfl⟩ := ry
  obtain ⟨its, r, ⟨⟨cls, dd, data, sl⟩, ho, hc, n, hd⟩, hs⟩ := I.tuple hT
  simp only at hc hd
  subst hc hd
  have hle : its.length = xs.length := r.length.symm
  have hn : its ≠ [] := fun e => hne (by
    rw [e] at hle
    exact List.eq_nil_of_length_eq_zero hle.symm)
  have c1 : (its.toArray.isEmpty || (0 : Int) == 1) = false := by
    cases its with
    | nil => exact absurd rfl hn
    | cons a b => rfl
  refine wpAny_binaryOp_repeat_ref (T := "tuple") (U := "int") (by decide) ⟨_, ho, rfl⟩ (fun s' => typeIs_int s' 0 t) noFill_tuple_mul F.fills_int_mul F.slot_int_rmul repeat_tuple F.slot_int_index.lookup
    (call_meets F.slot_int_rmul (typeIs_int s 0 t) F.entry_int_rmul (F.args_int_rmul_2 _ _) (int_rmul_tuple 0 t l its.toArray n dd sl)
      ⟨ho, rfl, ⟨_, ho, rfl⟩, call_meets F.slot_tuple_mul ⟨_, ho, rfl⟩ F.entry_tuple_mul (F.args_tuple_mul_2 _ _) (tuple_mul0 l its.toArray n dd sl t c1) ⟨ho, ?_⟩⟩)
  refine ⟨.ref s.heap.objs.size, _, I.laid (t' := s.toks) (o := .tup []) (fun b ob q => Heap.get?_push_of_some _ q) (Nat.le_refl _) ?_, rfl, q _ (I.hok.fresh (Nat.le_refl _))⟩
  exact ⟨by simp, [], .nil, IsTup.new _ _⟩
end
def dMulZ (x y : D) (h : IH) : R D := match x, y with
  | .tup l, .int k => if k = 0 ∧ 0 < l.length then .ok (.tup []) h else dMul (.tup l) (.int k) h
  | x, y => dMul x y h
section
variable {X : Cx} {G : Cf} {W : WX} {a b : Expr} {ma mb : ME} {pos : Pos}
theorem dMul_ok (hK : X.K = G.K) : OpS G (rMulAll X.K) dMul := by
  intro et H h x y v w W Q rx ry R p
  rw [hK]
  unfold dMul at p
  split at p
  · split at p
    · rename_i i j c
      refine .inl ⟨i, j, den_int.mp rx, den_int.mp ry, ?_, p.here R _ (by simp)⟩
      simpa [cMul, CMul] using c
    · exact p.elim
  · split at p
    · rename_i a k c
      exact .inr (.inr (.inr (.inl ⟨a, k, den_str.mp rx, den_int.mp ry, c.1, c.2.1, c.2.2, p.here R _ (by simp)⟩)))
    · exact p.elim
  · split at p
    · rename_i l k c
      obtain ⟨a, vs, rfl, h2, h3⟩ := den_tup.mp rx
      refine .inr (.inr (.inl ⟨a, k, vs, rfl, den_int.mp ry, h2, ?_, c.2.1, c.2.2.1, by rw [h3.len]; exact c.2.2.2, p.newT R (h3.flat _)⟩))
      rintro rfl
      have := h3.len
      simp at this
      omega
    · split at p
      · rename_i e1
        subst e1
        obtain ⟨a, vs, rfl, h2, h3⟩ := den_tup.mp rx
        exact .inr (.inr (.inr (.inr ⟨a, vs, rfl, den_int.mp ry, h2, p.here R _ rx⟩)))
      · exact p.elim
  · split at p
    · split at p
      · rename_i n k hh xs hx c
        obtain ⟨a, vs, h1, rfl, h2, h3⟩ := den_list R hx rx
        refine .inr (.inl ⟨a, k, vs, rfl, den_int.mp ry, h2, by omega, by omega, sz (by rw [h3.len]; exact c.2.2), ?_⟩)
        exact p.newL R (h3.flat _)
      · exact p.elim
    · exact p.elim
  · exact p.elim
theorem me_mulZ (hK : X.K = G.K) (ha : PE X a (tE G W ma)) (hb : PE X b (tE G W mb)) : PE X (.BinOp a .Mult b pos) (tE G W (mOp dMulZ ma mb)) := by
  refine me_op (OpR.or op_repT0 op_mulAll) ?_ ha hb
  intro et H h x y v w W Q rx ry R p
  unfold dMulZ at p
  split at p
  · rename_i l k
    split at p
    · rename_i c
      obtain ⟨a, vs, rfl, h2, h3⟩ := den_tup.mp rx
      have hy := den_int.mp ry
      rw [c.1] at hy
      refine .inl ⟨a, vs, rfl, hy, by rw [hK]; exact h2.sq, ?_, p.newT R (denL_nil.mpr rfl)⟩
      rintro rfl
      have := h3.len
      simp at this
      omega
    · exact .inr (dMul_ok hK et H h _ _ v w W Q rx ry R p)
  · exact .inr (dMul_ok hK et H h _ _ v w W Q rx ry R p)
end
theorem dMulZ_zero {l : List D} {h : IH} (l0 : 0 < l.length) : dMulZ (.tup l) (.int 0) h = .ok (.tup []) h := by
  unfold dMulZ
  dsimp only
  rw [if_pos ⟨rfl, l0⟩]
theorem dMulZ_one {v : D} {k : Nat} {h : IH} (k1 : k ≤ 1000) : dMulZ (.tup [v]) (.int (k : Nat)) h = .ok (.tup (List.replicate k v)) h := by
  have flat_rep : ∀ m : Nat, (List.replicate m [v]).flatten = List.replicate m v := fun m => by
    induction m with
    | zero => rfl
    | succ m ih => rw [List.replicate_succ, List.flatten_cons, ih]; rfl
  unfold dMulZ
  dsimp only
  by_cases k0 : k = 0
  · subst k0
    rw [if_pos ⟨rfl, by simp⟩]
    rfl
  · rw [if_neg (fun h => k0 (by have := h.1; omega))]
    unfold dMul
    dsimp only
    by_cases k2 : 2 ≤ k
    · rw [if_pos ⟨by simp, by omega, by omega, by simp⟩, Int.toNat_natCast, flat_rep]
    · have : k = 1 := by omega
      subst this
      rw [if_neg (fun h => by have := h.2.1; omega), if_pos (show ((1 : Nat) : Int) = 1 from rfl)]
      rfl
end NR

set_option Elab.async false
set_option linter.all false
set_option maxRecDepth 100000
set_option maxHeartbeats 4000000
namespace NR
open PySem PySem.Spec PyProof.Rows L2
/-! ### xs += ys, lists -/
def dIAddL (x y : D) (h : IH) : R D := match x, y with
  | .ref l, .ref b => match h[l]?, h[b]? with
    | some (.lst xs), some (.lst zs) => if xs.length + zs.length ≤ 10000000 then .ok (.ref l) (h.set l (.lst (xs ++ zs))) else .no
    | _, _ => .no
  | _, _ => .no
section
variable {G : Cf}
theorem dIAddL_ok : OpS G rExt2 dIAddL := by
  intro et H h x y v w W Q rx ry R p
  unfold dIAddL at p
  split at p
  · split at p
    · rename_i n b xs zs hx hz
      split at p
      · rename_i c
        obtain ⟨a, us, h2, rfl, h3, h4⟩ := den_list R hx rx
        obtain ⟨a', us', k2, rfl, k3, k4⟩ := den_list R hz ry
        refine ⟨a, a', us, us', rfl, rfl, h3, k3, sz (by rw [h4.len, k4.len]; exact c), ?_⟩
        have ex : Ext H (upd H a (.lst (us ++ us'))) := Ext.mut h3 True.intro
        exact p et _ List.prefix_rfl ex (R.set hx h2 rfl h3 True.intro ⟨_, upd_same, (h4.app k4).mono List.prefix_rfl ex⟩) _ (rx.mono List.prefix_rfl ex)
      · exact p.elim
    · exact p.elim
  · exact p.elim
end
theorem dIAddL_new {h : IH} {l : Nat} {xs zs : List D} {h' : IH} {b : Nat} (e1 : h[l]? = some (.lst xs)) (e2 : h[b]? = some (.lst zs)) (n : xs.length + zs.length ≤ 10000000) : dIAddL (.ref l) (.ref b) h = .ok (.ref l) (h.set l (.lst (xs ++ zs))) := by
  unfold dIAddL
  dsimp only
  rw [e1, e2]
  dsimp only
  rw [if_pos n]
end NR

set_option Elab.async false
set_option linter.all false
set_option maxRecDepth 100000
set_option maxHeartbeats 4000000
namespace NR
open PySem PySem.Spec PyProof.Rows L2
def topS (i : Nat) : Stmt := PySem.Challenge.pw_nearreach_k12_whole_courses_and_spreads.main.body.getD i (.Pass ⟨0, 0, 0, 0⟩)
def c_MOST_WEIGHT : D := .int 10
/-! inner -/
noncomputable def m_inner : MF := fnM 1 (msCons (msIf (mTb (mOp (dEq false) (mOp dIx (mVar 0) (mC (.int 0))) (mC (.str [111, 110, 101])))) (msRet (mTup (mNil))) (msNil))
    (msCons (msIf (mTb (mOp (dIn false) (mOp dIx (mVar 0) (mC (.int 0))) (mTup (mCons (mC (.str [114, 111, 119])) (mCons (mC (.str [101, 105, 116, 104, 101, 114])) (mNil)))))) (msRet (mOp dIx (mVar 0) (mC (.int 1)))) (msNil))
    (msRet (mTup (mCons (mOp dIx (mVar 0) (mC (.int 1))) (mNil))))))
theorem sc_inner : FnScope ["shape"] ["shape"] (defScope (topS 4)) := ⟨rfl, rfl, rfl, by decide +kernel, rfl, by decide +kernel, by decide +kernel⟩
theorem okf_inner {P : Program} {w : World} {K : PySem.W.Frag} {mg : Str → Option Value} {base : Heap} {cl : Str → Addr} {f : Addr} {fd : FuncData} (F : Fun K "inner" "inner" (topS 4) f fd) : FnOk P w K mg base (L2.CX P w) 1 f fd ["shape"] (FSp ⟨K, cl⟩ 1 m_inner) :=
  fnPM F sc_inner rfl fun cdv A outer s H E hr tk hp => mss_cons (ms_if (mt_cmp (op_eqP hr.units) (dEq_ok rfl) (me_ix rfl (me_var 0) (me_int)) (me_str [111, 110, 101])) (mss_one (ms_ret (me_tup (ma_nil)))) (mss_nil))
    (mss_cons (ms_if (mt_cmp (op_inA hr.units) (dIn_ok rfl false) (me_ix rfl (me_var 0) (me_int)) (me_tup (ma_cons (me_str [114, 111, 119]) (ma_cons (me_str [101, 105, 116, 104, 101, 114]) (ma_nil))))) (mss_one (ms_ret (me_ix rfl (me_var 0) (me_int)))) (mss_nil))
    (mss_one (ms_ret (me_tup (ma_cons (me_ix rfl (me_var 0) (me_int)) (ma_nil))))))
theorem ok_inner {P : Program} {w : World} {K : PySem.W.Frag} {mg : Str → Option Value} {base : Heap} {cl : Str → Addr} (d : DefAt K mg "inner" (topS 4) ["shape"]) : FnG P w K mg base ⟨K, cl⟩ "inner" 1 1 m_inner := d.fn fun f fd F => okf_inner F
/-! Plan___init__ -/
noncomputable def m_Plan___init__ : MF := fnM 1 (msCons (msSetF "Plan" "marks" (mVar 0) (mLst (mCons (mC (.str [])) (mNil))))
    (msSetF "Plan" "nexts" (mVar 0) (mLst (mCons (mLst (mNil)) (mNil)))))
theorem sc_Plan___init__ : FnScope ["self"] ["self"] (defScope (inClass (topS 8) 0)) := ⟨rfl, rfl, rfl, by decide +kernel, rfl, by decide +kernel, by decide +kernel⟩
theorem okf_Plan___init__ {P : Program} {w : World} {K : PySem.W.Frag} {mg : Str → Option Value} {base : Heap} {cl : Str → Addr} {f : Addr} {fd : FuncData} (F : Fun K "__init__" "Plan.__init__" (inClass (topS 8) 0) f fd) (q_Plan : Cls K (cl "Plan")) (n_Plan_marks : NoAttr K (cl "Plan") "marks") (n_Plan_nexts : NoAttr K (cl "Plan") "nexts") : FnOk P w K mg base (L2.CX P w) 1 f fd ["self"] (FSp ⟨K, cl⟩ 1 m_Plan___init__) :=
  fnPM F sc_Plan___init__ rfl fun cdv A outer s H E hr tk hp => mss_cons (ms_fld rfl q_Plan n_Plan_marks (me_var 0) (me_lst (ma_cons (me_str []) (ma_nil))))
    (mss_one (ms_fld rfl q_Plan n_Plan_nexts (me_var 0) (me_lst (ma_cons (me_lst (ma_nil)) (ma_nil)))))
theorem ok_Plan___init__ {P : Program} {w : World} {K : PySem.W.Frag} {mg : Str → Option Value} {base : Heap} {cl : Str → Addr} (d : InitAt K mg (cl "Plan") "Plan" "Plan.__init__" (inClass (topS 8) 0) ["self"]) (q_Plan : Cls K (cl "Plan")) (n_Plan_marks : NoAttr K (cl "Plan") "marks") (n_Plan_nexts : NoAttr K (cl "Plan") "nexts") : Mkd P w K mg base ⟨K, cl⟩ "Plan" 1 1 m_Plan___init__ := d.mkd (G := ⟨K, cl⟩) fun f fd F => okf_Plan___init__ F q_Plan n_Plan_marks n_Plan_nexts
/-! Plan_lay -/
noncomputable def m_Plan_lay : MF := fnM 2 (msCons (msExpr (mMeth "list" fAppend (mFld "Plan" "marks" (mVar 0)) (mCons (mVar 1) (mNil))))
    (msCons (msExpr (mMeth "list" fAppend (mFld "Plan" "nexts" (mVar 0)) (mCons (mLst (mNil)) (mNil))))
    (msRet (mOp dSub (mB bLen (mCons (mFld "Plan" "marks" (mVar 0)) (mNil))) (mC (.int 1))))))
theorem sc_Plan_lay : FnScope ["self", "signs"] ["self", "signs"] (defScope (inClass (topS 8) 1)) := ⟨rfl, rfl, rfl, by decide +kernel, rfl, by decide +kernel, by decide +kernel⟩
theorem okf_Plan_lay {P : Program} {w : World} {K : PySem.W.Frag} {mg : Str → Option Value} {base : Heap} {cl : Str → Addr} {f : Addr} {fd : FuncData} (F : Fun K "lay" "Plan.lay" (inClass (topS 8) 1) f fd) (z_len : mg "len" = none) (q_Plan : Cls K (cl "Plan")) (n_Plan_marks : NoAttr K (cl "Plan") "marks") (n_Plan_nexts : NoAttr K (cl "Plan") "nexts") : FnOk P w K mg base (L2.CX P w) 1 f fd ["self", "signs"] (FSp ⟨K, cl⟩ 2 m_Plan_lay) :=
  fnPM F sc_Plan_lay rfl fun cdv A outer s H E hr tk hp => mss_cons (ms_expr (me_meth rfl PySem.F.plainAttrs_list PySem.F.slot_list_append PySem.F.type_list_append mt_append fAppend_ok (me_fld rfl q_Plan n_Plan_marks (me_var 0)) (ma_cons (me_var 1) (ma_nil))))
    (mss_cons (ms_expr (me_meth rfl PySem.F.plainAttrs_list PySem.F.slot_list_append PySem.F.type_list_append mt_append fAppend_ok (me_fld rfl q_Plan n_Plan_nexts (me_var 0)) (ma_cons (me_lst (ma_nil)) (ma_nil))))
    (mss_one (ms_ret (me_sub (me_callB call_lenA bLen_ok z_len (by decide +kernel) (ma_cons (me_fld rfl q_Plan n_Plan_marks (me_var 0)) (ma_nil))) (me_int)))))
theorem ok_Plan_lay {P : Program} {w : World} {K : PySem.W.Frag} {mg : Str → Option Value} {base : Heap} {cl : Str → Addr} (d : MthAt K (cl "Plan") "Plan.lay" "lay" (inClass (topS 8) 1) ["self", "signs"]) (z_len : mg "len" = none) (q_Plan : Cls K (cl "Plan")) (n_Plan_marks : NoAttr K (cl "Plan") "marks") (n_Plan_nexts : NoAttr K (cl "Plan") "nexts") : Mtd P w K mg base ⟨K, cl⟩ "Plan" "lay" 1 2 m_Plan_lay := d.mtd (G := ⟨K, cl⟩) fun f fd F => okf_Plan_lay F z_len q_Plan n_Plan_marks n_Plan_nexts
/-! Plan_link -/
noncomputable def b_Plan_link_1 : MS := msIf (mTb (mOp (dIn true) (mVar 4) (mOp dIx (mFld "Plan" "nexts" (mVar 0)) (mVar 3)))) (msExpr (mMeth "list" fAppend (mOp dIx (mFld "Plan" "nexts" (mVar 0)) (mVar 3)) (mCons (mVar 4) (mNil)))) (msNil)
noncomputable def b_Plan_link_2 : MS := msFor (iSeq (mVar 2)) (gSet 4) b_Plan_link_1
noncomputable def m_Plan_link : MF := fnM 5 (msFor (iSeq (mVar 1)) (gSet 3) b_Plan_link_2)
theorem sc_Plan_link : FnScope ["self", "places", "others", "place", "other"] ["self", "places", "others"] (defScope (inClass (topS 8) 2)) := ⟨rfl, rfl, rfl, by decide +kernel, rfl, by decide +kernel, by decide +kernel⟩
theorem okf_Plan_link {P : Program} {w : World} {K : PySem.W.Frag} {mg : Str → Option Value} {base : Heap} {cl : Str → Addr} {f : Addr} {fd : FuncData} (F : Fun K "link" "Plan.link" (inClass (topS 8) 2) f fd) (q_Plan : Cls K (cl "Plan")) (n_Plan_nexts : NoAttr K (cl "Plan") "nexts") : FnOk P w K mg base (L2.CX P w) 1 f fd ["self", "places", "others"] (FSp ⟨K, cl⟩ 3 m_Plan_link) :=
  fnPM F sc_Plan_link rfl fun cdv A outer s H E hr tk hp => mss_one (ms_for rfl hp (mi_seq rfl (me_var 1)) (mg_name 3 sc_Plan_link.nd) (mss_one (ms_for rfl hp (mi_seq rfl (me_var 2)) (mg_name 4 sc_Plan_link.nd) (mss_one (ms_if (mt_cmp (op_notInA hr.units) (dIn_ok rfl true) (me_var 4) (me_ix rfl (me_fld rfl q_Plan n_Plan_nexts (me_var 0)) (me_var 3))) (mss_one (ms_expr (me_meth rfl PySem.F.plainAttrs_list PySem.F.slot_list_append PySem.F.type_list_append mt_append fAppend_ok (me_ix rfl (me_fld rfl q_Plan n_Plan_nexts (me_var 0)) (me_var 3)) (ma_cons (me_var 4) (ma_nil))))) (mss_nil))))))
theorem ok_Plan_link {P : Program} {w : World} {K : PySem.W.Frag} {mg : Str → Option Value} {base : Heap} {cl : Str → Addr} (d : MthAt K (cl "Plan") "Plan.link" "link" (inClass (topS 8) 2) ["self", "places", "others"]) (q_Plan : Cls K (cl "Plan")) (n_Plan_nexts : NoAttr K (cl "Plan") "nexts") : Mtd P w K mg base ⟨K, cl⟩ "Plan" "link" 1 3 m_Plan_link := d.mtd (G := ⟨K, cl⟩) fun f fd F => okf_Plan_link F q_Plan n_Plan_nexts
/-! _law_source -/
noncomputable def e__law_source_1 : ME := mOp dAdd (mOp dMul (mC (.int 2)) (mB bAbs (mCons (mVar 2) (mNil)))) (mB bInt1 (mCons (mOp dLt (mVar 2) (mC (.int 0))) (mNil)))
noncomputable def m__law_source : MF := fnM 3 (msCons (msSet 1 (mFz (mLc (iSeq (mFz (mSlice (mVar 0) (moNone) (moSome (mC (.int 63)))))) (gSet 2) mYes e__law_source_1 [2])))
    (msRet (mLst (mCons (mVar 1) (mCons (mC (.int 0)) (mCons (mC (.int 0)) (mCons (mC (.int 0)) (mCons (mOp dMod (mB bSum (mCons (mVar 1) (mNil))) (mC (.int 2147483647))) (mNil)))))))))
theorem sc__law_source : FnScope ["_law_script", "_law_cells", "_law_cell"] ["_law_script"] (defScope (topS 17)) := ⟨rfl, rfl, rfl, by decide +kernel, rfl, by decide +kernel, by decide +kernel⟩
theorem okf__law_source {P : Program} {w : World} {K : PySem.W.Frag} {mg : Str → Option Value} {base : Heap} {cl : Str → Addr} {f : Addr} {fd : FuncData} (F : Fun K "_law_source" "_law_source" (topS 17) f fd) (z_abs : mg "abs" = none) (z_int : mg "int" = none) (z_sum : mg "sum" = none) : FnOk P w K mg base (L2.CX P w) 1 f fd ["_law_script"] (FSp ⟨K, cl⟩ 1 m__law_source) :=
  fnPM F sc__law_source rfl fun cdv A outer s H E hr tk hp => mss_cons (ms_setF (ms_setLc 1 (own := [("_law_cell", 2)]) rfl sc__law_source.nd (mi_seq rfl (me_fz (me_slice rfl (me_var 0) (moN) (moS (me_int))))) (blkOk_by (N := ["_law_script", "_law_cells", "_law_cell"]) (sc := defScope (topS 17)) (by decide +kernel)) (fun _ _ _ _ _ => mg_name 2 sc__law_source.nd) (fun _ _ _ _ _ => mts_nil) (fun _ _ _ _ _ => me_add rfl (me_mul rfl (me_int) (me_callB call_abs bAbs_ok z_abs (by decide +kernel) (ma_cons (me_var 2) (ma_nil)))) (me_callT call_int1 bInt1_ok z_int (by decide +kernel) (ma_cons (me_cmp op_lt opS_C (me_var 2) (me_int)) (ma_nil)))) (sw_true rfl rfl rfl (by decide +kernel))))
    (mss_one (ms_ret (me_lst (ma_cons (me_var 1) (ma_cons (me_int) (ma_cons (me_int) (ma_cons (me_int) (ma_cons (me_mod (me_callB (cr_sum rfl) bSum_ok z_sum (by decide +kernel) (ma_cons (me_var 1) (ma_nil))) (me_int)) (ma_nil)))))))))
theorem ok__law_source {P : Program} {w : World} {K : PySem.W.Frag} {mg : Str → Option Value} {base : Heap} {cl : Str → Addr} (d : DefAt K mg "_law_source" (topS 17) ["_law_script"]) (z_abs : mg "abs" = none) (z_int : mg "int" = none) (z_sum : mg "sum" = none) : FnG P w K mg base ⟨K, cl⟩ "_law_source" 1 1 m__law_source := d.fn fun f fd F => okf__law_source F z_abs z_int z_sum
/-! _law_draw -/
noncomputable def m__law_draw : MF := fnM 4 (msCons (msAugI dIAdd (mVar 0) (mC (.int 3)) (mC (.int 1)))
    (msCons (msIf (mAnd (mTb (mOp (dEq false) (mOp dIx (mVar 0) (mC (.int 2))) (mC (.int 0)))) (mTb (mOp dLt (mOp dIx (mVar 0) (mC (.int 1))) (mB bLen (mCons (mOp dIx (mVar 0) (mC (.int 0))) (mNil)))))) (msCons (msSet 2 (mOp dIx (mOp dIx (mVar 0) (mC (.int 0))) (mOp dIx (mVar 0) (mC (.int 1)))))
    (msCons (msAugI dIAdd (mVar 0) (mC (.int 1)) (mC (.int 1)))
    (msIf (mTb (mOp dGe (mVar 2) (mOp dPow (mC (.int 10)) (mC (.int 18))))) (msSetI (mVar 0) (mC (.int 2)) (mVar 2)) (msSetI (mVar 0) (mC (.int 4)) (mOp dMod (mOp dAdd (mOp dMul (mOp dIx (mVar 0) (mC (.int 4))) (mC (.int 31))) (mVar 2)) (mC (.int 2147483647))))))) (msNil))
    (msCons (msIf (mTb (mOp dGt (mOp dIx (mVar 0) (mC (.int 2))) (mC (.int 0)))) (msCons (msSet 3 (mOp dMod (mOp dIx (mVar 0) (mC (.int 2))) (mVar 1)))
    (msCons (msAugI dDiv (mVar 0) (mC (.int 2)) (mVar 1))
    (msRet (mVar 3)))) (msNil))
    (msCons (msSet 3 (mOp dMod (mOp dPow (mOp dAdd (mOp dAdd (mOp dIx (mVar 0) (mC (.int 4))) (mC (.int 1))) (mOp dMul (mOp dIx (mVar 0) (mC (.int 3))) (mC (.int 7919)))) (mC (.int 3))) (mC (.int 2147483647))))
    (msRet (mOp dMod (mOp dDiv (mOp dMod (mOp dPow (mOp dAdd (mOp dMul (mVar 3) (mC (.int 48271))) (mOp dIx (mVar 0) (mC (.int 3)))) (mC (.int 2))) (mC (.int 2147483629))) (mC (.int 64))) (mVar 1)))))))
theorem sc__law_draw : FnScope ["_law_left", "_law_many", "_law_cell", "_law_told"] ["_law_left", "_law_many"] (defScope (topS 18)) := ⟨rfl, rfl, rfl, by decide +kernel, rfl, by decide +kernel, by decide +kernel⟩
theorem okf__law_draw {P : Program} {w : World} {K : PySem.W.Frag} {mg : Str → Option Value} {base : Heap} {cl : Str → Addr} {f : Addr} {fd : FuncData} (F : Fun K "_law_draw" "_law_draw" (topS 18) f fd) (z_len : mg "len" = none) : FnOk P w K mg base (L2.CX P w) 1 f fd ["_law_left", "_law_many"] (FSp ⟨K, cl⟩ 2 m__law_draw) :=
  fnPM F sc__law_draw rfl fun cdv A outer s H E hr tk hp => mss_cons (ms_augI rfl iop_addA iadd_ok (me_var 0) (me_int) (me_int))
    (mss_cons (ms_if (mt_w (mw_and (mt_cmp (op_eqP hr.units) (dEq_ok rfl) (me_ix rfl (me_var 0) (me_int)) (me_int)) (mw_and1 (mt_cmp op_lt opS_C (me_ix rfl (me_var 0) (me_int)) (me_callB call_lenA bLen_ok z_len (by decide +kernel) (ma_cons (me_ix rfl (me_var 0) (me_int)) (ma_nil))))))) (mss_cons (ms_set 2 sc__law_draw.nd (me_ix rfl (me_ix rfl (me_var 0) (me_int)) (me_ix rfl (me_var 0) (me_int))))
    (mss_cons (ms_augI rfl iop_addA iadd_ok (me_var 0) (me_int) (me_int))
    (mss_one (ms_if (mt_cmp op_ge opS_C (me_var 2) (me_pow (me_int) (me_int))) (mss_one (ms_setI (me_var 2) (me_var 0) (me_int))) (mss_one (ms_setI (me_mod (me_add rfl (me_mul rfl (me_ix rfl (me_var 0) (me_int)) (me_int)) (me_var 2)) (me_int)) (me_var 0) (me_int))))))) (mss_nil))
    (mss_cons (ms_if (mt_cmp op_gt opS_C (me_ix rfl (me_var 0) (me_int)) (me_int)) (mss_cons (ms_set 3 sc__law_draw.nd (me_mod (me_ix rfl (me_var 0) (me_int)) (me_var 1)))
    (mss_cons (ms_augI rfl iop_fdivW idiv_ok (me_var 0) (me_int) (me_var 1))
    (mss_one (ms_ret (me_var 3))))) (mss_nil))
    (mss_cons (ms_set 3 sc__law_draw.nd (me_mod (me_pow (me_add rfl (me_add rfl (me_ix rfl (me_var 0) (me_int)) (me_int)) (me_mul rfl (me_ix rfl (me_var 0) (me_int)) (me_int))) (me_int)) (me_int)))
    (mss_one (ms_ret (me_mod (me_div (me_mod (me_pow (me_add rfl (me_mul rfl (me_var 3) (me_int)) (me_ix rfl (me_var 0) (me_int))) (me_int)) (me_int)) (me_int)) (me_var 1)))))))
theorem ok__law_draw {P : Program} {w : World} {K : PySem.W.Frag} {mg : Str → Option Value} {base : Heap} {cl : Str → Addr} (d : DefAt K mg "_law_draw" (topS 18) ["_law_left", "_law_many"]) (z_len : mg "len" = none) : FnG P w K mg base ⟨K, cl⟩ "_law_draw" 1 2 m__law_draw := d.fn fun f fd F => okf__law_draw F z_len
/-! _law_signs -/
noncomputable def m__law_signs : MF := fnM 1 (msCons (msSet 0 (mC (.str [32, 33, 34, 35, 36, 38, 39, 40, 41, 42, 43, 44, 45, 46, 47, 48, 49, 50, 51, 52, 53, 54, 55, 56, 57, 58, 59, 60, 61, 62, 63, 64, 65, 66, 67, 68, 69, 70, 71, 72, 73, 74, 75, 76, 77, 78, 79, 80, 81, 82, 83, 84, 85, 86, 87, 88, 89, 90, 91, 92, 93, 94, 95, 96])))
    (msRet (mOp dAdd (mVar 0) (mC (.str [97, 98, 99, 100, 101, 102, 103, 104, 105, 106, 107, 108, 109, 110, 111, 112, 113, 114, 115, 116, 117, 118, 119, 120, 121, 122, 123, 124, 125, 126, 10])))))
theorem sc__law_signs : FnScope ["_law_some"] [] (defScope (topS 19)) := ⟨rfl, rfl, rfl, by decide +kernel, rfl, by decide +kernel, by decide +kernel⟩
theorem okf__law_signs {P : Program} {w : World} {K : PySem.W.Frag} {mg : Str → Option Value} {base : Heap} {cl : Str → Addr} {f : Addr} {fd : FuncData} (F : Fun K "_law_signs" "_law_signs" (topS 19) f fd) : FnOk P w K mg base (L2.CX P w) 1 f fd [] (FSp ⟨K, cl⟩ 0 m__law_signs) :=
  fnPM F sc__law_signs rfl fun cdv A outer s H E hr tk hp => mss_cons (ms_set 0 sc__law_signs.nd (me_str [32, 33, 34, 35, 36, 38, 39, 40, 41, 42, 43, 44, 45, 46, 47, 48, 49, 50, 51, 52, 53, 54, 55, 56, 57, 58, 59, 60, 61, 62, 63, 64, 65, 66, 67, 68, 69, 70, 71, 72, 73, 74, 75, 76, 77, 78, 79, 80, 81, 82, 83, 84, 85, 86, 87, 88, 89, 90, 91, 92, 93, 94, 95, 96]))
    (mss_one (ms_ret (me_add rfl (me_var 0) (me_str [97, 98, 99, 100, 101, 102, 103, 104, 105, 106, 107, 108, 109, 110, 111, 112, 113, 114, 115, 116, 117, 118, 119, 120, 121, 122, 123, 124, 125, 126, 10]))))
theorem ok__law_signs {P : Program} {w : World} {K : PySem.W.Frag} {mg : Str → Option Value} {base : Heap} {cl : Str → Addr} (d : DefAt K mg "_law_signs" (topS 19) []) : FnG P w K mg base ⟨K, cl⟩ "_law_signs" 1 0 m__law_signs := d.fn fun f fd F => okf__law_signs F
/-! _law_laid -/
noncomputable def m__law_laid : MF := fnM 1 (msCons (msIf (mTb (mOp (dIn false) (mOp dIx (mVar 0) (mC (.int 0))) (mTup (mCons (mC (.str [114, 111, 119])) (mCons (mC (.str [101, 105, 116, 104, 101, 114])) (mNil)))))) (msRet (mOp dIx (mVar 0) (mC (.int 1)))) (msNil))
    (msCons (msIf (mTb (mOp (dEq false) (mOp dIx (mVar 0) (mC (.int 0))) (mC (.str [109, 97, 110, 121])))) (msRet (mTup (mCons (mOp dIx (mVar 0) (mC (.int 1))) (mNil)))) (msNil))
    (msRet (mOp dMulZ (mTup (mCons (mOp dIx (mVar 0) (mC (.int 1))) (mNil))) (mOp dIx (mVar 0) (mC (.int 3)))))))
theorem sc__law_laid : FnScope ["_law_shape_here"] ["_law_shape_here"] (defScope (topS 24)) := ⟨rfl, rfl, rfl, by decide +kernel, rfl, by decide +kernel, by decide +kernel⟩
theorem okf__law_laid {P : Program} {w : World} {K : PySem.W.Frag} {mg : Str → Option Value} {base : Heap} {cl : Str → Addr} {f : Addr} {fd : FuncData} (F : Fun K "_law_laid" "_law_laid" (topS 24) f fd) : FnOk P w K mg base (L2.CX P w) 1 f fd ["_law_shape_here"] (FSp ⟨K, cl⟩ 1 m__law_laid) :=
  fnPM F sc__law_laid rfl fun cdv A outer s H E hr tk hp => mss_cons (ms_if (mt_cmp (op_inA hr.units) (dIn_ok rfl false) (me_ix rfl (me_var 0) (me_int)) (me_tup (ma_cons (me_str [114, 111, 119]) (ma_cons (me_str [101, 105, 116, 104, 101, 114]) (ma_nil))))) (mss_one (ms_ret (me_ix rfl (me_var 0) (me_int)))) (mss_nil))
    (mss_cons (ms_if (mt_cmp (op_eqP hr.units) (dEq_ok rfl) (me_ix rfl (me_var 0) (me_int)) (me_str [109, 97, 110, 121])) (mss_one (ms_ret (me_tup (ma_cons (me_ix rfl (me_var 0) (me_int)) (ma_nil))))) (mss_nil))
    (mss_one (ms_ret (me_mulZ rfl (me_tup (ma_cons (me_ix rfl (me_var 0) (me_int)) (ma_nil))) (me_ix rfl (me_var 0) (me_int))))))
theorem ok__law_laid {P : Program} {w : World} {K : PySem.W.Frag} {mg : Str → Option Value} {base : Heap} {cl : Str → Addr} (d : DefAt K mg "_law_laid" (topS 24) ["_law_shape_here"]) : FnG P w K mg base ⟨K, cl⟩ "_law_laid" 1 1 m__law_laid := d.fn fun f fd F => okf__law_laid F
/-! _law_along -/
noncomputable def b__law_along_1 : MS := msCons (msIf (mTb (mOp (dIn true) (mVar 3) (mOp dIx (mOp dIx (mVar 0) (mC (.int 1))) (mVar 2)))) (msRet (mC (.bl false))) (msNil))
    (msSet 2 (mVar 3))
noncomputable def m__law_along : MF := fnM 4 (msCons (msSet 2 (mC (.int 0)))
    (msCons (msFor (iSeq (mVar 1)) (gSet 3) b__law_along_1)
    (msRet (mOp (dIn false) (mVar 2) (mOp dIx (mVar 0) (mC (.int 2)))))))
theorem sc__law_along : FnScope ["_law_told", "_law_row", "_law_here", "_law_place"] ["_law_told", "_law_row"] (defScope (topS 31)) := ⟨rfl, rfl, rfl, by decide +kernel, rfl, by decide +kernel, by decide +kernel⟩
theorem okf__law_along {P : Program} {w : World} {K : PySem.W.Frag} {mg : Str → Option Value} {base : Heap} {cl : Str → Addr} {f : Addr} {fd : FuncData} (F : Fun K "_law_along" "_law_along" (topS 31) f fd) : FnOk P w K mg base (L2.CX P w) 1 f fd ["_law_told", "_law_row"] (FSp ⟨K, cl⟩ 2 m__law_along) :=
  fnPM F sc__law_along rfl fun cdv A outer s H E hr tk hp => mss_cons (ms_set 2 sc__law_along.nd (me_int))
    (mss_cons (ms_for rfl hp (mi_seq rfl (me_var 1)) (mg_name 3 sc__law_along.nd) (mss_cons (ms_if (mt_cmp (op_notInA hr.units) (dIn_ok rfl true) (me_var 3) (me_ix rfl (me_ix rfl (me_var 0) (me_int)) (me_var 2))) (mss_one (ms_ret (me_bl))) (mss_nil))
    (mss_one (ms_set 2 sc__law_along.nd (me_var 3)))))
    (mss_one (ms_ret (me_cmp (op_inA hr.units) (dIn_ok rfl false) (me_var 2) (me_ix rfl (me_var 0) (me_int))))))
theorem ok__law_along {P : Program} {w : World} {K : PySem.W.Frag} {mg : Str → Option Value} {base : Heap} {cl : Str → Addr} (d : DefAt K mg "_law_along" (topS 31) ["_law_told", "_law_row"]) : FnG P w K mg base ⟨K, cl⟩ "_law_along" 1 2 m__law_along := d.fn fun f fd F => okf__law_along F
/-! in_turn -/
noncomputable def m_in_turn : MF := fnM 9 (msCons (msSetT (gSets [3, 4, 5]) (mVar 1))
    (msCons (msSetT (gSets [6, 7, 8]) (mVar 2))
    (msCons (msExpr (mMth "Plan" "link" 3 (m_Plan_link) (mVar 0) (mCons (mVar 4) (mCons (mVar 6) (mNil)))))
    (msCons (msIf (mTr (mVar 5)) (msSet 3 (mOp dAdd (mVar 3) (mVar 6))) (msNil))
    (msCons (msIf (mTr (mVar 8)) (msSet 7 (mOp dAdd (mVar 4) (mVar 7))) (msNil))
    (msRet (mTup (mCons (mVar 3) (mCons (mVar 7) (mCons (mAndV (mVar 5) (mVar 8)) (mNil)))))))))))
theorem sc_in_turn : FnScope ["plan", "ends", "more", "firsts", "lasts", "empty", "later", "closing", "vacant"] ["plan", "ends", "more"] (defScope (topS 9)) := ⟨rfl, rfl, rfl, by decide +kernel, rfl, by decide +kernel, by decide +kernel⟩
theorem okf_in_turn {P : Program} {w : World} {K : PySem.W.Frag} {mg : Str → Option Value} {base : Heap} {cl : Str → Addr} {f : Addr} {fd : FuncData} (F : Fun K "in_turn" "in_turn" (topS 9) f fd) (F_Plan_link : Mtd P w K mg base ⟨K, cl⟩ "Plan" "link" 1 3 m_Plan_link) : FnOk P w K mg base (L2.CX P w) 2 f fd ["plan", "ends", "more"] (FSp ⟨K, cl⟩ 3 m_in_turn) :=
  fnPM F sc_in_turn rfl fun cdv A outer s H E hr tk hp => mss_cons (ms_setT (me_var 1) (mg_tup rfl rfl (.cons (pg_name (i := 3) sc_in_turn.nd rfl (by first | exact Or.inl rfl | exact Or.inr rfl)) (.cons (pg_name (i := 4) sc_in_turn.nd rfl (by first | exact Or.inl rfl | exact Or.inr rfl)) (.cons (pg_name (i := 5) sc_in_turn.nd rfl (by first | exact Or.inl rfl | exact Or.inr rfl)) (.nil) rfl) rfl) rfl)))
    (mss_cons (ms_setT (me_var 2) (mg_tup rfl rfl (.cons (pg_name (i := 6) sc_in_turn.nd rfl (by first | exact Or.inl rfl | exact Or.inr rfl)) (.cons (pg_name (i := 7) sc_in_turn.nd rfl (by first | exact Or.inl rfl | exact Or.inr rfl)) (.cons (pg_name (i := 8) sc_in_turn.nd rfl (by first | exact Or.inl rfl | exact Or.inr rfl)) (.nil) rfl) rfl) rfl)))
    (mss_cons (ms_expr (me_mth F_Plan_link hr (by decide) tk (me_var 0) (ma_cons (me_var 4) (ma_cons (me_var 6) (ma_nil)))))
    (mss_cons (ms_if (mt_val rfl (me_var 5)) (mss_one (ms_set 3 sc_in_turn.nd (me_add rfl (me_var 3) (me_var 6)))) (mss_nil))
    (mss_cons (ms_if (mt_val rfl (me_var 8)) (mss_one (ms_set 7 sc_in_turn.nd (me_add rfl (me_var 4) (me_var 7)))) (mss_nil))
    (mss_one (ms_ret (me_tup (ma_cons (me_var 3) (ma_cons (me_var 7) (ma_cons (me_and (me_var 5) (me_one (me_var 8))) (ma_nil)))))))))))
theorem ok_in_turn {P : Program} {w : World} {K : PySem.W.Frag} {mg : Str → Option Value} {base : Heap} {cl : Str → Addr} (d : DefAt K mg "in_turn" (topS 9) ["plan", "ends", "more"]) (F_Plan_link : Mtd P w K mg base ⟨K, cl⟩ "Plan" "link" 1 3 m_Plan_link) : FnG P w K mg base ⟨K, cl⟩ "in_turn" 2 3 m_in_turn := d.fn fun f fd F => okf_in_turn F F_Plan_link
/-! _law_tongue -/
noncomputable def b__law_tongue_1 : MS := msCons (msSet 4 (mCall 2 (m__law_draw) (mCons (mVar 0) (mCons (mB bLen (mCons (mVar 1) (mNil))) (mNil)))))
    (msCons (msAug 2 dIAdd (mOp dIx (mVar 1) (mVar 4)))
    (msSet 1 (mFz (mOp dAdd (mFz (mSlice (mVar 1) (moNone) (moSome (mVar 4)))) (mFz (mSlice (mVar 1) (moSome (mOp dAdd (mVar 4) (mC (.int 1)))) (moNone)))))))
noncomputable def m__law_tongue : MF := fnM 5 (msCons (msSet 1 (mCall 0 (m__law_signs) mNil))
    (msCons (msSet 2 (mC (.str [])))
    (msCons (msFor (iRange1 (mCons (mOp dAdd (mC (.int 1)) (mCall 2 (m__law_draw) (mCons (mVar 0) (mCons (mC (.int 6)) (mNil))))) (mNil))) (gSet 3) b__law_tongue_1)
    (msRet (mVar 2)))))
theorem sc__law_tongue : FnScope ["_law_left", "_law_rest", "_law_told", "_law_k", "_law_at"] ["_law_left"] (defScope (topS 20)) := ⟨rfl, rfl, rfl, by decide +kernel, rfl, by decide +kernel, by decide +kernel⟩
theorem okf__law_tongue {P : Program} {w : World} {K : PySem.W.Frag} {mg : Str → Option Value} {base : Heap} {cl : Str → Addr} {f : Addr} {fd : FuncData} (F : Fun K "_law_tongue" "_law_tongue" (topS 20) f fd) (z_range : mg "range" = none) (z_len : mg "len" = none) (F__law_signs : FnG P w K mg base ⟨K, cl⟩ "_law_signs" 1 0 m__law_signs) (F__law_draw : FnG P w K mg base ⟨K, cl⟩ "_law_draw" 1 2 m__law_draw) : FnOk P w K mg base (L2.CX P w) 2 f fd ["_law_left"] (FSp ⟨K, cl⟩ 1 m__law_tongue) :=
  fnPM F sc__law_tongue rfl fun cdv A outer s H E hr tk hp => mss_cons (ms_set 1 sc__law_tongue.nd (me_callG0 F__law_signs hr (by decide) tk))
    (mss_cons (ms_set 2 sc__law_tongue.nd (me_str []))
    (mss_cons (ms_for rfl hp (mi_range1 (ma_cons (me_add rfl (me_int) (me_callG F__law_draw hr (by decide) tk (ma_cons (me_var 0) (ma_cons (me_int) (ma_nil))))) (ma_nil)) z_range) (mg_name 3 sc__law_tongue.nd) (mss_cons (ms_set 4 sc__law_tongue.nd (me_callG F__law_draw hr (by decide) tk (ma_cons (me_var 0) (ma_cons (me_callB call_lenA bLen_ok z_len (by decide +kernel) (ma_cons (me_var 1) (ma_nil))) (ma_nil)))))
    (mss_cons (ms_aug 2 sc__law_tongue.nd iop_addA iadd_ok (me_ix rfl (me_var 1) (me_var 4)))
    (mss_one (ms_set 1 sc__law_tongue.nd (me_fz (me_add rfl (me_fz (me_slice rfl (me_var 1) (moN) (moS (me_var 4)))) (me_fz (me_slice rfl (me_var 1) (moS (me_add rfl (me_var 4) (me_int))) (moN))))))))))
    (mss_one (ms_ret (me_var 2)))))
theorem ok__law_tongue {P : Program} {w : World} {K : PySem.W.Frag} {mg : Str → Option Value} {base : Heap} {cl : Str → Addr} (d : DefAt K mg "_law_tongue" (topS 20) ["_law_left"]) (z_range : mg "range" = none) (z_len : mg "len" = none) (F__law_signs : FnG P w K mg base ⟨K, cl⟩ "_law_signs" 1 0 m__law_signs) (F__law_draw : FnG P w K mg base ⟨K, cl⟩ "_law_draw" 1 2 m__law_draw) : FnG P w K mg base ⟨K, cl⟩ "_law_tongue" 2 1 m__law_tongue := d.fn fun f fd F => okf__law_tongue F z_range z_len F__law_signs F__law_draw
/-! _law_ones -/
noncomputable def b__law_ones_1 : MS := msCons (msSet 6 (mCall 2 (m__law_draw) (mCons (mVar 0) (mCons (mB bLen (mCons (mVar 2) (mNil))) (mNil)))))
    (msCons (msAug 3 dIAdd (mOp dIx (mVar 2) (mVar 6)))
    (msSet 2 (mFz (mOp dAdd (mFz (mSlice (mVar 2) (moNone) (moSome (mVar 6)))) (mFz (mSlice (mVar 2) (moSome (mOp dAdd (mVar 6) (mC (.int 1)))) (moNone)))))))
noncomputable def m__law_ones : MF := fnM 7 (msCons (msSet 2 (mVar 1))
    (msCons (msSet 3 (mC (.str [])))
    (msCons (msSet 4 (mC (.int 1)))
    (msCons (msIf (mTb (mOp (dEq false) (mCall 2 (m__law_draw) (mCons (mVar 0) (mCons (mC (.int 2)) (mNil)))) (mC (.int 0)))) (msSet 4 (mOp dAdd (mC (.int 1)) (mCall 2 (m__law_draw) (mCons (mVar 0) (mCons (mB bLen (mCons (mVar 1) (mNil))) (mNil)))))) (msNil))
    (msCons (msFor (iRange1 (mCons (mVar 4) (mNil))) (gSet 5) b__law_ones_1)
    (msRet (mVar 3)))))))
theorem sc__law_ones : FnScope ["_law_left", "_law_tongue_here", "_law_rest", "_law_told", "_law_many", "_law_k", "_law_at"] ["_law_left", "_law_tongue_here"] (defScope (topS 21)) := ⟨rfl, rfl, rfl, by decide +kernel, rfl, by decide +kernel, by decide +kernel⟩
theorem okf__law_ones {P : Program} {w : World} {K : PySem.W.Frag} {mg : Str → Option Value} {base : Heap} {cl : Str → Addr} {f : Addr} {fd : FuncData} (F : Fun K "_law_ones" "_law_ones" (topS 21) f fd) (z_len : mg "len" = none) (z_range : mg "range" = none) (F__law_draw : FnG P w K mg base ⟨K, cl⟩ "_law_draw" 1 2 m__law_draw) : FnOk P w K mg base (L2.CX P w) 2 f fd ["_law_left", "_law_tongue_here"] (FSp ⟨K, cl⟩ 2 m__law_ones) :=
  fnPM F sc__law_ones rfl fun cdv A outer s H E hr tk hp => mss_cons (ms_set 2 sc__law_ones.nd (me_var 1))
    (mss_cons (ms_set 3 sc__law_ones.nd (me_str []))
    (mss_cons (ms_set 4 sc__law_ones.nd (me_int))
    (mss_cons (ms_if (mt_cmp (op_eqP hr.units) (dEq_ok rfl) (me_callG F__law_draw hr (by decide) tk (ma_cons (me_var 0) (ma_cons (me_int) (ma_nil)))) (me_int)) (mss_one (ms_set 4 sc__law_ones.nd (me_add rfl (me_int) (me_callG F__law_draw hr (by decide) tk (ma_cons (me_var 0) (ma_cons (me_callB call_lenA bLen_ok z_len (by decide +kernel) (ma_cons (me_var 1) (ma_nil))) (ma_nil))))))) (mss_nil))
    (mss_cons (ms_for rfl hp (mi_range1 (ma_cons (me_var 4) (ma_nil)) z_range) (mg_name 5 sc__law_ones.nd) (mss_cons (ms_set 6 sc__law_ones.nd (me_callG F__law_draw hr (by decide) tk (ma_cons (me_var 0) (ma_cons (me_callB call_lenA bLen_ok z_len (by decide +kernel) (ma_cons (me_var 2) (ma_nil))) (ma_nil)))))
    (mss_cons (ms_aug 3 sc__law_ones.nd iop_addA iadd_ok (me_ix rfl (me_var 2) (me_var 6)))
    (mss_one (ms_set 2 sc__law_ones.nd (me_fz (me_add rfl (me_fz (me_slice rfl (me_var 2) (moN) (moS (me_var 6)))) (me_fz (me_slice rfl (me_var 2) (moS (me_add rfl (me_var 6) (me_int))) (moN))))))))))
    (mss_one (ms_ret (me_var 3)))))))
theorem ok__law_ones {P : Program} {w : World} {K : PySem.W.Frag} {mg : Str → Option Value} {base : Heap} {cl : Str → Addr} (d : DefAt K mg "_law_ones" (topS 21) ["_law_left", "_law_tongue_here"]) (z_len : mg "len" = none) (z_range : mg "range" = none) (F__law_draw : FnG P w K mg base ⟨K, cl⟩ "_law_draw" 1 2 m__law_draw) : FnG P w K mg base ⟨K, cl⟩ "_law_ones" 2 2 m__law_ones := d.fn fun f fd F => okf__law_ones F z_len z_range F__law_draw
/-! _law_gone -/
noncomputable def t__law_gone_1 : MT := mAnd (mTb (mOp dLt (mB bLen (mCons (mVar 2) (mNil))) (mC (.int 10)))) (mAnd (mTb (mOp (dEq true) (mOp dIx (mOp dIx (mVar 1) (mC (.int 1))) (mVar 3)) (mTup (mNil)))) (mOr (mTb (mOp (dIn true) (mVar 3) (mOp dIx (mVar 1) (mC (.int 2))))) (mTb (mOp dGt (mCall 2 (m__law_draw) (mCons (mVar 0) (mCons (mC (.int 3)) (mNil)))) (mC (.int 0))))))
noncomputable def b__law_gone_2 : MS := msCons (msSet 3 (mOp dIx (mOp dIx (mOp dIx (mVar 1) (mC (.int 1))) (mVar 3)) (mCall 2 (m__law_draw) (mCons (mVar 0) (mCons (mB bLen (mCons (mOp dIx (mOp dIx (mVar 1) (mC (.int 1))) (mVar 3)) (mNil))) (mNil))))))
    (msExpr (mMeth "list" fAppend (mVar 2) (mCons (mVar 3) (mNil))))
noncomputable def m__law_gone : MF := fnM 4 (msCons (msSet 2 (mLst (mNil)))
    (msCons (msSet 3 (mC (.int 0)))
    (msCons (msWhile t__law_gone_1 b__law_gone_2)
    (msFz 2 (msRet (mVar 2))))))
theorem sc__law_gone : FnScope ["_law_left", "_law_told", "_law_row", "_law_here"] ["_law_left", "_law_told"] (defScope (topS 29)) := ⟨rfl, rfl, rfl, by decide +kernel, rfl, by decide +kernel, by decide +kernel⟩
theorem okf__law_gone {P : Program} {w : World} {K : PySem.W.Frag} {mg : Str → Option Value} {base : Heap} {cl : Str → Addr} {f : Addr} {fd : FuncData} (F : Fun K "_law_gone" "_law_gone" (topS 29) f fd) (z_len : mg "len" = none) (F__law_draw : FnG P w K mg base ⟨K, cl⟩ "_law_draw" 1 2 m__law_draw) : FnOk P w K mg base (L2.CX P w) 2 f fd ["_law_left", "_law_told"] (FSp ⟨K, cl⟩ 2 m__law_gone) :=
  fnPM F sc__law_gone rfl fun cdv A outer s H E hr tk hp => mss_cons (ms_set 2 sc__law_gone.nd (me_lst (ma_nil)))
    (mss_cons (ms_set 3 sc__law_gone.nd (me_int))
    (mss_cons (ms_while hp (mt_w (mw_and (mt_cmp op_lt opS_C (me_callB call_lenA bLen_ok z_len (by decide +kernel) (ma_cons (me_var 2) (ma_nil))) (me_int)) (mw_and (mt_cmp (op_neP hr.units) (dNe_ok rfl) (me_ix rfl (me_ix rfl (me_var 1) (me_int)) (me_var 3)) (me_tup (ma_nil))) (mw_and1 (mt_w (mw_or (mt_cmp (op_notInA hr.units) (dIn_ok rfl true) (me_var 3) (me_ix rfl (me_var 1) (me_int))) (mw_or1 (mt_cmp op_gt opS_C (me_callG F__law_draw hr (by decide) tk (ma_cons (me_var 0) (ma_cons (me_int) (ma_nil)))) (me_int))))))))) (mss_cons (ms_set 3 sc__law_gone.nd (me_ix rfl (me_ix rfl (me_ix rfl (me_var 1) (me_int)) (me_var 3)) (me_callG F__law_draw hr (by decide) tk (ma_cons (me_var 0) (ma_cons (me_callB call_lenA bLen_ok z_len (by decide +kernel) (ma_cons (me_ix rfl (me_ix rfl (me_var 1) (me_int)) (me_var 3)) (ma_nil))) (ma_nil))))))
    (mss_one (ms_expr (me_meth rfl PySem.F.plainAttrs_list PySem.F.slot_list_append PySem.F.type_list_append mt_append fAppend_ok (me_var 2) (ma_cons (me_var 3) (ma_nil)))))))
    (mss_one (ms_fz 2 (ms_ret (me_var 2))))))
theorem ok__law_gone {P : Program} {w : World} {K : PySem.W.Frag} {mg : Str → Option Value} {base : Heap} {cl : Str → Addr} (d : DefAt K mg "_law_gone" (topS 29) ["_law_left", "_law_told"]) (z_len : mg "len" = none) (F__law_draw : FnG P w K mg base ⟨K, cl⟩ "_law_draw" 1 2 m__law_draw) : FnG P w K mg base ⟨K, cl⟩ "_law_gone" 2 2 m__law_gone := d.fn fun f fd F => okf__law_gone F z_len F__law_draw
/-! _law_bent -/
noncomputable def m__law_bent : MF := fnM 5 (msCons (msSet 3 (mCall 2 (m__law_draw) (mCons (mVar 0) (mCons (mOp dAdd (mB bLen (mCons (mVar 1) (mNil))) (mC (.int 1))) (mNil)))))
    (msCons (msSet 4 (mCall 2 (m__law_draw) (mCons (mVar 0) (mCons (mC (.int 4)) (mNil)))))
    (msCons (msIf (mTb (mOp (dEq false) (mVar 4) (mC (.int 0)))) (msRet (mFz (mOp dAdd (mFz (mSlice (mVar 1) (moNone) (moSome (mVar 3)))) (mFz (mSlice (mVar 1) (moSome (mOp dAdd (mVar 3) (mC (.int 1)))) (moNone)))))) (msNil))
    (msCons (msIf (mTb (mOp (dEq false) (mVar 4) (mC (.int 1)))) (msRet (mFz (mOp dAdd (mFz (mSlice (mVar 1) (moNone) (moSome (mVar 3)))) (mFz (mSlice (mVar 1) (moSome (mB bMax2 (mCons (mC (.int 0)) (mCons (mOp dSub (mVar 3) (mC (.int 1))) (mNil))))) (moNone)))))) (msNil))
    (msRet (mFz (mOp dAdd (mFz (mOp dAdd (mFz (mSlice (mVar 1) (moNone) (moSome (mVar 3)))) (mFz (mLst (mCons (mOp dAdd (mC (.int 1)) (mCall 2 (m__law_draw) (mCons (mVar 0) (mCons (mVar 2) (mNil))))) (mNil)))))) (mFz (mSlice (mVar 1) (moSome (mOp dAdd (mVar 3) (mOp dDiv (mVar 4) (mC (.int 3))))) (moNone))))))))))
theorem sc__law_bent : FnScope ["_law_left", "_law_row", "_law_many", "_law_at", "_law_sort"] ["_law_left", "_law_row", "_law_many"] (defScope (topS 30)) := ⟨rfl, rfl, rfl, by decide +kernel, rfl, by decide +kernel, by decide +kernel⟩
theorem okf__law_bent {P : Program} {w : World} {K : PySem.W.Frag} {mg : Str → Option Value} {base : Heap} {cl : Str → Addr} {f : Addr} {fd : FuncData} (F : Fun K "_law_bent" "_law_bent" (topS 30) f fd) (z_len : mg "len" = none) (z_max : mg "max" = none) (F__law_draw : FnG P w K mg base ⟨K, cl⟩ "_law_draw" 1 2 m__law_draw) : FnOk P w K mg base (L2.CX P w) 2 f fd ["_law_left", "_law_row", "_law_many"] (FSp ⟨K, cl⟩ 3 m__law_bent) :=
  fnPM F sc__law_bent rfl fun cdv A outer s H E hr tk hp => mss_cons (ms_set 3 sc__law_bent.nd (me_callG F__law_draw hr (by decide) tk (ma_cons (me_var 0) (ma_cons (me_add rfl (me_callB call_lenA bLen_ok z_len (by decide +kernel) (ma_cons (me_var 1) (ma_nil))) (me_int)) (ma_nil)))))
    (mss_cons (ms_set 4 sc__law_bent.nd (me_callG F__law_draw hr (by decide) tk (ma_cons (me_var 0) (ma_cons (me_int) (ma_nil)))))
    (mss_cons (ms_if (mt_cmp (op_eqP hr.units) (dEq_ok rfl) (me_var 4) (me_int)) (mss_one (ms_ret (me_fz (me_add rfl (me_fz (me_slice rfl (me_var 1) (moN) (moS (me_var 3)))) (me_fz (me_slice rfl (me_var 1) (moS (me_add rfl (me_var 3) (me_int))) (moN))))))) (mss_nil))
    (mss_cons (ms_if (mt_cmp (op_eqP hr.units) (dEq_ok rfl) (me_var 4) (me_int)) (mss_one (ms_ret (me_fz (me_add rfl (me_fz (me_slice rfl (me_var 1) (moN) (moS (me_var 3)))) (me_fz (me_slice rfl (me_var 1) (moS (me_callB (call_max2 rfl) bMax2_ok z_max (by decide +kernel) (ma_cons (me_int) (ma_cons (me_sub (me_var 3) (me_int)) (ma_nil))))) (moN))))))) (mss_nil))
    (mss_one (ms_ret (me_fz (me_add rfl (me_fz (me_add rfl (me_fz (me_slice rfl (me_var 1) (moN) (moS (me_var 3)))) (me_fz (me_lst (ma_cons (me_add rfl (me_int) (me_callG F__law_draw hr (by decide) tk (ma_cons (me_var 0) (ma_cons (me_var 2) (ma_nil))))) (ma_nil)))))) (me_fz (me_slice rfl (me_var 1) (moS (me_add rfl (me_var 3) (me_div (me_var 4) (me_int)))) (moN))))))))))
theorem ok__law_bent {P : Program} {w : World} {K : PySem.W.Frag} {mg : Str → Option Value} {base : Heap} {cl : Str → Addr} (d : DefAt K mg "_law_bent" (topS 30) ["_law_left", "_law_row", "_law_many"]) (z_len : mg "len" = none) (z_max : mg "max" = none) (F__law_draw : FnG P w K mg base ⟨K, cl⟩ "_law_draw" 1 2 m__law_draw) : FnG P w K mg base ⟨K, cl⟩ "_law_bent" 2 3 m__law_bent := d.fn fun f fd F => okf__law_bent F z_len z_max F__law_draw
/-! _law_weight -/
noncomputable def e__law_weight_1 (r__law_weight : MF) : ME := mCall 1 (r__law_weight) (mCons (mVar 1) (mNil))
noncomputable def B__law_weight (r__law_weight : MF) : MF := fnM 2 (msCons (msIf (mTb (mOp (dEq false) (mOp dIx (mVar 0) (mC (.int 0))) (mC (.str [111, 110, 101])))) (msRet (mC (.int 1))) (msNil))
    (msCons (msIf (mTb (mOp (dIn false) (mOp dIx (mVar 0) (mC (.int 0))) (mTup (mCons (mC (.str [114, 111, 119])) (mCons (mC (.str [101, 105, 116, 104, 101, 114])) (mNil)))))) (msRet (mB bSum (mCons (mFz (mLc (iSeq (mOp dIx (mVar 0) (mC (.int 1)))) (gSet 1) mYes (e__law_weight_1 r__law_weight) [1])) (mNil)))) (msNil))
    (msCons (msIf (mTb (mOp (dEq false) (mOp dIx (mVar 0) (mC (.int 0))) (mC (.str [109, 97, 110, 121])))) (msRet (mCall 1 (r__law_weight) (mCons (mOp dIx (mVar 0) (mC (.int 1))) (mNil)))) (msNil))
    (msRet (mOp dMul (mOp dIx (mVar 0) (mC (.int 3))) (mCall 1 (r__law_weight) (mCons (mOp dIx (mVar 0) (mC (.int 1))) (mNil))))))))
theorem sc__law_weight : FnScope ["_law_shape_here", "_law_part"] ["_law_shape_here"] (defScope (topS 22)) := ⟨rfl, rfl, rfl, by decide +kernel, rfl, by decide +kernel, by decide +kernel⟩
theorem okf__law_weight {P : Program} {w : World} {K : PySem.W.Frag} {mg : Str → Option Value} {base : Heap} {cl : Str → Addr} {k : Nat} {r__law_weight : MF} (hk : 0 ≤ k) {f : Addr} {fd : FuncData} (F : Fun K "_law_weight" "_law_weight" (topS 22) f fd) (z_sum : mg "sum" = none) (F__law_weight : FnG P w K mg base ⟨K, cl⟩ "_law_weight" k 1 r__law_weight) : FnOk P w K mg base (L2.CX P w) (k + 1) f fd ["_law_shape_here"] (FSp ⟨K, cl⟩ 1 (B__law_weight r__law_weight)) :=
  fnPM F sc__law_weight rfl fun cdv A outer s H E hr tk hp => mss_cons (ms_if (mt_cmp (op_eqP hr.units) (dEq_ok rfl) (me_ix rfl (me_var 0) (me_int)) (me_str [111, 110, 101])) (mss_one (ms_ret (me_int))) (mss_nil))
    (mss_cons (ms_if (mt_cmp (op_inA hr.units) (dIn_ok rfl false) (me_ix rfl (me_var 0) (me_int)) (me_tup (ma_cons (me_str [114, 111, 119]) (ma_cons (me_str [101, 105, 116, 104, 101, 114]) (ma_nil))))) (mss_one (ms_ret (me_callB (cr_sum rfl) bSum_ok z_sum (by decide +kernel) (ma_cons (me_fz (me_lc (own := [("_law_part", 1)]) rfl sc__law_weight.nd (mi_seq rfl (me_ix rfl (me_var 0) (me_int))) (blkOk_by (N := ["_law_shape_here", "_law_part"]) (sc := defScope (topS 22)) (by decide +kernel)) (fun _ _ _ _ _ => mg_name 1 sc__law_weight.nd) (fun _ _ _ _ _ => mts_nil) (fun _ _ _ _ _ => me_callG F__law_weight hr (Nat.le_refl _) takes0 (ma_cons (me_var 1) (ma_nil))))) (ma_nil))))) (mss_nil))
    (mss_cons (ms_if (mt_cmp (op_eqP hr.units) (dEq_ok rfl) (me_ix rfl (me_var 0) (me_int)) (me_str [109, 97, 110, 121])) (mss_one (ms_ret (me_callG F__law_weight hr (Nat.le_refl _) tk (ma_cons (me_ix rfl (me_var 0) (me_int)) (ma_nil))))) (mss_nil))
    (mss_one (ms_ret (me_mul rfl (me_ix rfl (me_var 0) (me_int)) (me_callG F__law_weight hr (Nat.le_refl _) tk (ma_cons (me_ix rfl (me_var 0) (me_int)) (ma_nil))))))))
noncomputable def scc__law_weight : Nat → MF
  | 0 => (mNo)
  | n + 1 => (B__law_weight (scc__law_weight n))
noncomputable def m__law_weight (n : Nat) : MF := (scc__law_weight n)
theorem m__law_weight_succ (n : Nat) : m__law_weight (n + 1) = B__law_weight (m__law_weight n) := rfl
theorem ok_scc__law_weight {P : Program} {w : World} {K : PySem.W.Frag} {mg : Str → Option Value} {base : Heap} {cl : Str → Addr} (d__law_weight : DefAt K mg "_law_weight" (topS 22) ["_law_shape_here"]) (z_sum : mg "sum" = none) (n : Nat) : FnG P w K mg base ⟨K, cl⟩ "_law_weight" (0 + n) 1 (m__law_weight n) := by
  induction n with
  | zero => exact fnG_no d__law_weight rfl
  | succ n ih => exact d__law_weight.fn fun f fd F => okf__law_weight (Nat.le_add_right _ _) F z_sum ih
/-! weight -/
noncomputable def e_weight_1 (r_weight : MF) : ME := mCall 1 (r_weight) (mCons (mVar 2) (mNil))
noncomputable def B_weight (r_weight : MF) : MF := fnM 3 (msCons (msIf (mTb (mOp (dEq false) (mOp dIx (mVar 0) (mC (.int 0))) (mC (.str [111, 110, 101])))) (msRet (mC (.int 1))) (msNil))
    (msCons (msSet 1 (mB bSum (mCons (mFz (mLc (iSeq (mCall 1 (m_inner) (mCons (mVar 0) (mNil)))) (gSet 2) mYes (e_weight_1 r_weight) [2])) (mNil))))
    (msCons (msIf (mTb (mOp (dEq false) (mOp dIx (mVar 0) (mC (.int 0))) (mC (.str [116, 105, 109, 101, 115])))) (msRet (mOp dMul (mOp dIx (mVar 0) (mC (.int 3))) (mVar 1))) (msNil))
    (msRet (mVar 1)))))
theorem sc_weight : FnScope ["shape", "found", "part"] ["shape"] (defScope (topS 5)) := ⟨rfl, rfl, rfl, by decide +kernel, rfl, by decide +kernel, by decide +kernel⟩
theorem okf_weight {P : Program} {w : World} {K : PySem.W.Frag} {mg : Str → Option Value} {base : Heap} {cl : Str → Addr} {k : Nat} {r_weight : MF} (hk : 1 ≤ k) {f : Addr} {fd : FuncData} (F : Fun K "weight" "weight" (topS 5) f fd) (z_sum : mg "sum" = none) (F_inner : FnG P w K mg base ⟨K, cl⟩ "inner" 1 1 m_inner) (F_weight : FnG P w K mg base ⟨K, cl⟩ "weight" k 1 r_weight) : FnOk P w K mg base (L2.CX P w) (k + 1) f fd ["shape"] (FSp ⟨K, cl⟩ 1 (B_weight r_weight)) :=
  fnPM F sc_weight rfl fun cdv A outer s H E hr tk hp => mss_cons (ms_if (mt_cmp (op_eqP hr.units) (dEq_ok rfl) (me_ix rfl (me_var 0) (me_int)) (me_str [111, 110, 101])) (mss_one (ms_ret (me_int))) (mss_nil))
    (mss_cons (ms_set 1 sc_weight.nd (me_callB (cr_sum rfl) bSum_ok z_sum (by decide +kernel) (ma_cons (me_fz (me_lc (own := [("part", 2)]) rfl sc_weight.nd (mi_seq rfl (me_callG F_inner hr (Nat.le_trans (by decide) hk) tk (ma_cons (me_var 0) (ma_nil)))) (blkOk_by (N := ["shape", "found", "part"]) (sc := defScope (topS 5)) (by decide +kernel)) (fun _ _ _ _ _ => mg_name 2 sc_weight.nd) (fun _ _ _ _ _ => mts_nil) (fun _ _ _ _ _ => me_callG F_weight hr (Nat.le_refl _) takes0 (ma_cons (me_var 2) (ma_nil))))) (ma_nil))))
    (mss_cons (ms_if (mt_cmp (op_eqP hr.units) (dEq_ok rfl) (me_ix rfl (me_var 0) (me_int)) (me_str [116, 105, 109, 101, 115])) (mss_one (ms_ret (me_mul rfl (me_ix rfl (me_var 0) (me_int)) (me_var 1)))) (mss_nil))
    (mss_one (ms_ret (me_var 1)))))
noncomputable def scc_weight : Nat → MF
  | 0 => (mNo)
  | n + 1 => (B_weight (scc_weight n))
noncomputable def m_weight (n : Nat) : MF := (scc_weight n)
theorem m_weight_succ (n : Nat) : m_weight (n + 1) = B_weight (m_weight n) := rfl
theorem ok_scc_weight {P : Program} {w : World} {K : PySem.W.Frag} {mg : Str → Option Value} {base : Heap} {cl : Str → Addr} (d_weight : DefAt K mg "weight" (topS 5) ["shape"]) (z_sum : mg "sum" = none) (F_inner : FnG P w K mg base ⟨K, cl⟩ "inner" 1 1 m_inner) (n : Nat) : FnG P w K mg base ⟨K, cl⟩ "weight" (1 + n) 1 (m_weight n) := by
  induction n with
  | zero => exact fnG_no d_weight rfl
  | succ n ih => exact d_weight.fn fun f fd F => okf_weight (Nat.le_add_right _ _) F z_sum F_inner ih
/-! laid_row -/
noncomputable def b_laid_row_1 (r_laid_row r_laid_either r_laid_many r_laid_times r_laid : MF) : MS := msSet 2 (mCall 3 (m_in_turn) (mCons (mVar 0) (mCons (mVar 2) (mCons (mCall 2 (r_laid) (mCons (mVar 0) (mCons (mVar 3) (mNil)))) (mNil)))))
noncomputable def B_laid_row (r_laid_row r_laid_either r_laid_many r_laid_times r_laid : MF) : MF := fnM 4 (msCons (msSet 2 (mTup (mCons (mLst (mNil)) (mCons (mLst (mNil)) (mCons (mC (.bl true)) (mNil))))))
    (msCons (msFor (iSeq (mVar 1)) (gSet 3) (b_laid_row_1 r_laid_row r_laid_either r_laid_many r_laid_times r_laid))
    (msRet (mVar 2))))
theorem sc_laid_row : FnScope ["plan", "parts", "ends", "part"] ["plan", "parts"] (defScope (topS 10)) := ⟨rfl, rfl, rfl, by decide +kernel, rfl, by decide +kernel, by decide +kernel⟩
theorem okf_laid_row {P : Program} {w : World} {K : PySem.W.Frag} {mg : Str → Option Value} {base : Heap} {cl : Str → Addr} {k : Nat} {r_laid_row r_laid_either r_laid_many r_laid_times r_laid : MF} (hk : 2 ≤ k) {f : Addr} {fd : FuncData} (F : Fun K "laid_row" "laid_row" (topS 10) f fd) (F_in_turn : FnG P w K mg base ⟨K, cl⟩ "in_turn" 2 3 m_in_turn) (F_laid_row : FnG P w K mg base ⟨K, cl⟩ "laid_row" k 2 r_laid_row) (F_laid_either : FnG P w K mg base ⟨K, cl⟩ "laid_either" k 2 r_laid_either) (F_laid_many : FnG P w K mg base ⟨K, cl⟩ "laid_many" k 2 r_laid_many) (F_laid_times : FnG P w K mg base ⟨K, cl⟩ "laid_times" k 4 r_laid_times) (F_laid : FnG P w K mg base ⟨K, cl⟩ "laid" k 2 r_laid) : FnOk P w K mg base (L2.CX P w) (k + 1) f fd ["plan", "parts"] (FSp ⟨K, cl⟩ 2 (B_laid_row r_laid_row r_laid_either r_laid_many r_laid_times r_laid)) :=
  fnPM F sc_laid_row rfl fun cdv A outer s H E hr tk hp => mss_cons (ms_set 2 sc_laid_row.nd (me_tup (ma_cons (me_lst (ma_nil)) (ma_cons (me_lst (ma_nil)) (ma_cons (me_bl) (ma_nil))))))
    (mss_cons (ms_for rfl hp (mi_seq rfl (me_var 1)) (mg_name 3 sc_laid_row.nd) (mss_one (ms_set 2 sc_laid_row.nd (me_callG F_in_turn hr (Nat.le_trans (by decide) hk) tk (ma_cons (me_var 0) (ma_cons (me_var 2) (ma_cons (me_callG F_laid hr (Nat.le_refl _) tk (ma_cons (me_var 0) (ma_cons (me_var 3) (ma_nil)))) (ma_nil))))))))
    (mss_one (ms_ret (me_var 2))))
/-! laid_either -/
noncomputable def b_laid_either_1 (r_laid_row r_laid_either r_laid_many r_laid_times r_laid : MF) : MS := msCons (msSetT (gSets [6, 7, 8]) (mCall 2 (r_laid) (mCons (mVar 0) (mCons (mVar 5) (mNil)))))
    (msCons (msAug 2 dIAddL (mVar 6))
    (msCons (msAug 3 dIAddL (mVar 7))
    (msSet 4 (mOrV (mVar 4) (mVar 8)))))
noncomputable def B_laid_either (r_laid_row r_laid_either r_laid_many r_laid_times r_laid : MF) : MF := fnM 9 (msCons (msSet 2 (mLst (mNil)))
    (msCons (msSet 3 (mLst (mNil)))
    (msCons (msSet 4 (mC (.bl false)))
    (msCons (msFor (iSeq (mVar 1)) (gSet 5) (b_laid_either_1 r_laid_row r_laid_either r_laid_many r_laid_times r_laid))
    (msRet (mTup (mCons (mVar 2) (mCons (mVar 3) (mCons (mVar 4) (mNil))))))))))
theorem sc_laid_either : FnScope ["plan", "parts", "firsts", "lasts", "empty", "part", "begins", "closes", "vacant"] ["plan", "parts"] (defScope (topS 11)) := ⟨rfl, rfl, rfl, by decide +kernel, rfl, by decide +kernel, by decide +kernel⟩
theorem okf_laid_either {P : Program} {w : World} {K : PySem.W.Frag} {mg : Str → Option Value} {base : Heap} {cl : Str → Addr} {k : Nat} {r_laid_row r_laid_either r_laid_many r_laid_times r_laid : MF} (hk : 2 ≤ k) {f : Addr} {fd : FuncData} (F : Fun K "laid_either" "laid_either" (topS 11) f fd) (F_laid_row : FnG P w K mg base ⟨K, cl⟩ "laid_row" k 2 r_laid_row) (F_laid_either : FnG P w K mg base ⟨K, cl⟩ "laid_either" k 2 r_laid_either) (F_laid_many : FnG P w K mg base ⟨K, cl⟩ "laid_many" k 2 r_laid_many) (F_laid_times : FnG P w K mg base ⟨K, cl⟩ "laid_times" k 4 r_laid_times) (F_laid : FnG P w K mg base ⟨K, cl⟩ "laid" k 2 r_laid) : FnOk P w K mg base (L2.CX P w) (k + 1) f fd ["plan", "parts"] (FSp ⟨K, cl⟩ 2 (B_laid_either r_laid_row r_laid_either r_laid_many r_laid_times r_laid)) :=
  fnPM F sc_laid_either rfl fun cdv A outer s H E hr tk hp => mss_cons (ms_set 2 sc_laid_either.nd (me_lst (ma_nil)))
    (mss_cons (ms_set 3 sc_laid_either.nd (me_lst (ma_nil)))
    (mss_cons (ms_set 4 sc_laid_either.nd (me_bl))
    (mss_cons (ms_for rfl hp (mi_seq rfl (me_var 1)) (mg_name 5 sc_laid_either.nd) (mss_cons (ms_setT (me_callG F_laid hr (Nat.le_refl _) tk (ma_cons (me_var 0) (ma_cons (me_var 5) (ma_nil)))) (mg_tup rfl rfl (.cons (pg_name (i := 6) sc_laid_either.nd rfl (by first | exact Or.inl rfl | exact Or.inr rfl)) (.cons (pg_name (i := 7) sc_laid_either.nd rfl (by first | exact Or.inl rfl | exact Or.inr rfl)) (.cons (pg_name (i := 8) sc_laid_either.nd rfl (by first | exact Or.inl rfl | exact Or.inr rfl)) (.nil) rfl) rfl) rfl)))
    (mss_cons (ms_aug 2 sc_laid_either.nd iop_ext dIAddL_ok (me_var 6))
    (mss_cons (ms_aug 3 sc_laid_either.nd iop_ext dIAddL_ok (me_var 7))
    (mss_one (ms_set 4 sc_laid_either.nd (me_or (me_var 4) (me_one (me_var 8)))))))))
    (mss_one (ms_ret (me_tup (ma_cons (me_var 2) (ma_cons (me_var 3) (ma_cons (me_var 4) (ma_nil))))))))))
/-! laid_many -/
noncomputable def B_laid_many (r_laid_row r_laid_either r_laid_many r_laid_times r_laid : MF) : MF := fnM 5 (msCons (msSetT (gSets [2, 3, 4]) (mCall 2 (r_laid) (mCons (mVar 0) (mCons (mVar 1) (mNil)))))
    (msCons (msExpr (mMth "Plan" "link" 3 (m_Plan_link) (mVar 0) (mCons (mVar 3) (mCons (mVar 2) (mNil)))))
    (msRet (mTup (mCons (mVar 2) (mCons (mVar 3) (mCons (mC (.bl true)) (mNil))))))))
theorem sc_laid_many : FnScope ["plan", "part", "firsts", "lasts", "empty"] ["plan", "part"] (defScope (topS 12)) := ⟨rfl, rfl, rfl, by decide +kernel, rfl, by decide +kernel, by decide +kernel⟩
theorem okf_laid_many {P : Program} {w : World} {K : PySem.W.Frag} {mg : Str → Option Value} {base : Heap} {cl : Str → Addr} {k : Nat} {r_laid_row r_laid_either r_laid_many r_laid_times r_laid : MF} (hk : 2 ≤ k) {f : Addr} {fd : FuncData} (F : Fun K "laid_many" "laid_many" (topS 12) f fd) (F_Plan_link : Mtd P w K mg base ⟨K, cl⟩ "Plan" "link" 1 3 m_Plan_link) (F_laid_row : FnG P w K mg base ⟨K, cl⟩ "laid_row" k 2 r_laid_row) (F_laid_either : FnG P w K mg base ⟨K, cl⟩ "laid_either" k 2 r_laid_either) (F_laid_many : FnG P w K mg base ⟨K, cl⟩ "laid_many" k 2 r_laid_many) (F_laid_times : FnG P w K mg base ⟨K, cl⟩ "laid_times" k 4 r_laid_times) (F_laid : FnG P w K mg base ⟨K, cl⟩ "laid" k 2 r_laid) : FnOk P w K mg base (L2.CX P w) (k + 1) f fd ["plan", "part"] (FSp ⟨K, cl⟩ 2 (B_laid_many r_laid_row r_laid_either r_laid_many r_laid_times r_laid)) :=
  fnPM F sc_laid_many rfl fun cdv A outer s H E hr tk hp => mss_cons (ms_setT (me_callG F_laid hr (Nat.le_refl _) tk (ma_cons (me_var 0) (ma_cons (me_var 1) (ma_nil)))) (mg_tup rfl rfl (.cons (pg_name (i := 2) sc_laid_many.nd rfl (by first | exact Or.inl rfl | exact Or.inr rfl)) (.cons (pg_name (i := 3) sc_laid_many.nd rfl (by first | exact Or.inl rfl | exact Or.inr rfl)) (.cons (pg_name (i := 4) sc_laid_many.nd rfl (by first | exact Or.inl rfl | exact Or.inr rfl)) (.nil) rfl) rfl) rfl)))
    (mss_cons (ms_expr (me_mth F_Plan_link hr (Nat.le_trans (by decide) hk) tk (me_var 0) (ma_cons (me_var 3) (ma_cons (me_var 2) (ma_nil)))))
    (mss_one (ms_ret (me_tup (ma_cons (me_var 2) (ma_cons (me_var 3) (ma_cons (me_bl) (ma_nil))))))))
/-! laid_times -/
noncomputable def b_laid_times_1 (r_laid_row r_laid_either r_laid_many r_laid_times r_laid : MF) : MS := msCons (msSet 4 (mCall 3 (m_in_turn) (mCons (mVar 0) (mCons (mVar 4) (mCons (mCall 2 (r_laid) (mCons (mVar 0) (mCons (mVar 1) (mNil)))) (mNil))))))
    (msIf (mTb (mOp dGe (mVar 7) (mVar 2))) (msCons (msAug 5 dIAddL (mOp dIx (mVar 4) (mC (.int 1))))
    (msSet 6 (mOrV (mVar 6) (mOp dIx (mVar 4) (mC (.int 2)))))) (msNil))
noncomputable def B_laid_times (r_laid_row r_laid_either r_laid_many r_laid_times r_laid : MF) : MF := fnM 8 (msCons (msSet 4 (mTup (mCons (mLst (mNil)) (mCons (mLst (mNil)) (mCons (mC (.bl true)) (mNil))))))
    (msCons (msSet 5 (mLst (mNil)))
    (msCons (msSet 6 (mOp (dEq false) (mVar 2) (mC (.int 0))))
    (msCons (msFor (iRange2 (mCons (mC (.int 1)) (mCons (mOp dAdd (mVar 3) (mC (.int 1))) (mNil)))) (gSet 7) (b_laid_times_1 r_laid_row r_laid_either r_laid_many r_laid_times r_laid))
    (msRet (mTup (mCons (mOp dIx (mVar 4) (mC (.int 0))) (mCons (mVar 5) (mCons (mVar 6) (mNil))))))))))
theorem sc_laid_times : FnScope ["plan", "part", "low", "high", "ends", "closing", "empty", "count"] ["plan", "part", "low", "high"] (defScope (topS 13)) := ⟨rfl, rfl, rfl, by decide +kernel, rfl, by decide +kernel, by decide +kernel⟩
theorem okf_laid_times {P : Program} {w : World} {K : PySem.W.Frag} {mg : Str → Option Value} {base : Heap} {cl : Str → Addr} {k : Nat} {r_laid_row r_laid_either r_laid_many r_laid_times r_laid : MF} (hk : 2 ≤ k) {f : Addr} {fd : FuncData} (F : Fun K "laid_times" "laid_times" (topS 13) f fd) (z_range : mg "range" = none) (F_in_turn : FnG P w K mg base ⟨K, cl⟩ "in_turn" 2 3 m_in_turn) (F_laid_row : FnG P w K mg base ⟨K, cl⟩ "laid_row" k 2 r_laid_row) (F_laid_either : FnG P w K mg base ⟨K, cl⟩ "laid_either" k 2 r_laid_either) (F_laid_many : FnG P w K mg base ⟨K, cl⟩ "laid_many" k 2 r_laid_many) (F_laid_times : FnG P w K mg base ⟨K, cl⟩ "laid_times" k 4 r_laid_times) (F_laid : FnG P w K mg base ⟨K, cl⟩ "laid" k 2 r_laid) : FnOk P w K mg base (L2.CX P w) (k + 1) f fd ["plan", "part", "low", "high"] (FSp ⟨K, cl⟩ 4 (B_laid_times r_laid_row r_laid_either r_laid_many r_laid_times r_laid)) :=
  fnPM F sc_laid_times rfl fun cdv A outer s H E hr tk hp => mss_cons (ms_set 4 sc_laid_times.nd (me_tup (ma_cons (me_lst (ma_nil)) (ma_cons (me_lst (ma_nil)) (ma_cons (me_bl) (ma_nil))))))
    (mss_cons (ms_set 5 sc_laid_times.nd (me_lst (ma_nil)))
    (mss_cons (ms_set 6 sc_laid_times.nd (me_cmp (op_eqP hr.units) (dEq_ok rfl) (me_var 2) (me_int)))
    (mss_cons (ms_for rfl hp (mi_range2 (ma_cons (me_int) (ma_cons (me_add rfl (me_var 3) (me_int)) (ma_nil))) z_range) (mg_name 7 sc_laid_times.nd) (mss_cons (ms_set 4 sc_laid_times.nd (me_callG F_in_turn hr (Nat.le_trans (by decide) hk) tk (ma_cons (me_var 0) (ma_cons (me_var 4) (ma_cons (me_callG F_laid hr (Nat.le_refl _) tk (ma_cons (me_var 0) (ma_cons (me_var 1) (ma_nil)))) (ma_nil))))))
    (mss_one (ms_if (mt_cmp op_ge opS_C (me_var 7) (me_var 2)) (mss_cons (ms_aug 5 sc_laid_times.nd iop_ext dIAddL_ok (me_ix rfl (me_var 4) (me_int)))
    (mss_one (ms_set 6 sc_laid_times.nd (me_or (me_var 6) (me_one (me_ix rfl (me_var 4) (me_int))))))) (mss_nil)))))
    (mss_one (ms_ret (me_tup (ma_cons (me_ix rfl (me_var 4) (me_int)) (ma_cons (me_var 5) (ma_cons (me_var 6) (ma_nil))))))))))
/-! laid -/
noncomputable def B_laid (r_laid_row r_laid_either r_laid_many r_laid_times r_laid : MF) : MF := fnM 3 (msCons (msIf (mTb (mOp (dEq false) (mOp dIx (mVar 1) (mC (.int 0))) (mC (.str [111, 110, 101])))) (msCons (msSet 2 (mMth "Plan" "lay" 2 (m_Plan_lay) (mVar 0) (mCons (mOp dIx (mVar 1) (mC (.int 1))) (mNil))))
    (msRet (mTup (mCons (mLst (mCons (mVar 2) (mNil))) (mCons (mLst (mCons (mVar 2) (mNil))) (mCons (mC (.bl false)) (mNil))))))) (msNil))
    (msCons (msIf (mTb (mOp (dEq false) (mOp dIx (mVar 1) (mC (.int 0))) (mC (.str [114, 111, 119])))) (msRet (mCall 2 (r_laid_row) (mCons (mVar 0) (mCons (mOp dIx (mVar 1) (mC (.int 1))) (mNil))))) (msNil))
    (msCons (msIf (mTb (mOp (dEq false) (mOp dIx (mVar 1) (mC (.int 0))) (mC (.str [101, 105, 116, 104, 101, 114])))) (msRet (mCall 2 (r_laid_either) (mCons (mVar 0) (mCons (mOp dIx (mVar 1) (mC (.int 1))) (mNil))))) (msNil))
    (msCons (msIf (mTb (mOp (dEq false) (mOp dIx (mVar 1) (mC (.int 0))) (mC (.str [109, 97, 110, 121])))) (msRet (mCall 2 (r_laid_many) (mCons (mVar 0) (mCons (mOp dIx (mVar 1) (mC (.int 1))) (mNil))))) (msNil))
    (msRet (mCall 4 (r_laid_times) (mCons (mVar 0) (mCons (mOp dIx (mVar 1) (mC (.int 1))) (mCons (mOp dIx (mVar 1) (mC (.int 2))) (mCons (mOp dIx (mVar 1) (mC (.int 3))) (mNil)))))))))))
theorem sc_laid : FnScope ["plan", "shape", "at"] ["plan", "shape"] (defScope (topS 14)) := ⟨rfl, rfl, rfl, by decide +kernel, rfl, by decide +kernel, by decide +kernel⟩
theorem okf_laid {P : Program} {w : World} {K : PySem.W.Frag} {mg : Str → Option Value} {base : Heap} {cl : Str → Addr} {k : Nat} {r_laid_row r_laid_either r_laid_many r_laid_times r_laid : MF} (hk : 2 ≤ k) {f : Addr} {fd : FuncData} (F : Fun K "laid" "laid" (topS 14) f fd) (F_Plan_lay : Mtd P w K mg base ⟨K, cl⟩ "Plan" "lay" 1 2 m_Plan_lay) (F_laid_row : FnG P w K mg base ⟨K, cl⟩ "laid_row" k 2 r_laid_row) (F_laid_either : FnG P w K mg base ⟨K, cl⟩ "laid_either" k 2 r_laid_either) (F_laid_many : FnG P w K mg base ⟨K, cl⟩ "laid_many" k 2 r_laid_many) (F_laid_times : FnG P w K mg base ⟨K, cl⟩ "laid_times" k 4 r_laid_times) (F_laid : FnG P w K mg base ⟨K, cl⟩ "laid" k 2 r_laid) : FnOk P w K mg base (L2.CX P w) (k + 1) f fd ["plan", "shape"] (FSp ⟨K, cl⟩ 2 (B_laid r_laid_row r_laid_either r_laid_many r_laid_times r_laid)) :=
  fnPM F sc_laid rfl fun cdv A outer s H E hr tk hp => mss_cons (ms_if (mt_cmp (op_eqP hr.units) (dEq_ok rfl) (me_ix rfl (me_var 1) (me_int)) (me_str [111, 110, 101])) (mss_cons (ms_set 2 sc_laid.nd (me_mth F_Plan_lay hr (Nat.le_trans (by decide) hk) tk (me_var 0) (ma_cons (me_ix rfl (me_var 1) (me_int)) (ma_nil))))
    (mss_one (ms_ret (me_tup (ma_cons (me_lst (ma_cons (me_var 2) (ma_nil))) (ma_cons (me_lst (ma_cons (me_var 2) (ma_nil))) (ma_cons (me_bl) (ma_nil)))))))) (mss_nil))
    (mss_cons (ms_if (mt_cmp (op_eqP hr.units) (dEq_ok rfl) (me_ix rfl (me_var 1) (me_int)) (me_str [114, 111, 119])) (mss_one (ms_ret (me_callG F_laid_row hr (Nat.le_refl _) tk (ma_cons (me_var 0) (ma_cons (me_ix rfl (me_var 1) (me_int)) (ma_nil)))))) (mss_nil))
    (mss_cons (ms_if (mt_cmp (op_eqP hr.units) (dEq_ok rfl) (me_ix rfl (me_var 1) (me_int)) (me_str [101, 105, 116, 104, 101, 114])) (mss_one (ms_ret (me_callG F_laid_either hr (Nat.le_refl _) tk (ma_cons (me_var 0) (ma_cons (me_ix rfl (me_var 1) (me_int)) (ma_nil)))))) (mss_nil))
    (mss_cons (ms_if (mt_cmp (op_eqP hr.units) (dEq_ok rfl) (me_ix rfl (me_var 1) (me_int)) (me_str [109, 97, 110, 121])) (mss_one (ms_ret (me_callG F_laid_many hr (Nat.le_refl _) tk (ma_cons (me_var 0) (ma_cons (me_ix rfl (me_var 1) (me_int)) (ma_nil)))))) (mss_nil))
    (mss_one (ms_ret (me_callG F_laid_times hr (Nat.le_refl _) tk (ma_cons (me_var 0) (ma_cons (me_ix rfl (me_var 1) (me_int)) (ma_cons (me_ix rfl (me_var 1) (me_int)) (ma_cons (me_ix rfl (me_var 1) (me_int)) (ma_nil)))))))))))
noncomputable def scc_laid_row : Nat → MF × MF × MF × MF × MF
  | 0 => (mNo, mNo, mNo, mNo, mNo)
  | n + 1 => (B_laid_row (scc_laid_row n).1 (scc_laid_row n).2.1 (scc_laid_row n).2.2.1 (scc_laid_row n).2.2.2.1 (scc_laid_row n).2.2.2.2, B_laid_either (scc_laid_row n).1 (scc_laid_row n).2.1 (scc_laid_row n).2.2.1 (scc_laid_row n).2.2.2.1 (scc_laid_row n).2.2.2.2, B_laid_many (scc_laid_row n).1 (scc_laid_row n).2.1 (scc_laid_row n).2.2.1 (scc_laid_row n).2.2.2.1 (scc_laid_row n).2.2.2.2, B_laid_times (scc_laid_row n).1 (scc_laid_row n).2.1 (scc_laid_row n).2.2.1 (scc_laid_row n).2.2.2.1 (scc_laid_row n).2.2.2.2, B_laid (scc_laid_row n).1 (scc_laid_row n).2.1 (scc_laid_row n).2.2.1 (scc_laid_row n).2.2.2.1 (scc_laid_row n).2.2.2.2)
noncomputable def m_laid_row (n : Nat) : MF := (scc_laid_row n).1
noncomputable def m_laid_either (n : Nat) : MF := (scc_laid_row n).2.1
noncomputable def m_laid_many (n : Nat) : MF := (scc_laid_row n).2.2.1
noncomputable def m_laid_times (n : Nat) : MF := (scc_laid_row n).2.2.2.1
noncomputable def m_laid (n : Nat) : MF := (scc_laid_row n).2.2.2.2
theorem m_laid_row_succ (n : Nat) : m_laid_row (n + 1) = B_laid_row (m_laid_row n) (m_laid_either n) (m_laid_many n) (m_laid_times n) (m_laid n) := rfl
theorem m_laid_either_succ (n : Nat) : m_laid_either (n + 1) = B_laid_either (m_laid_row n) (m_laid_either n) (m_laid_many n) (m_laid_times n) (m_laid n) := rfl
theorem m_laid_many_succ (n : Nat) : m_laid_many (n + 1) = B_laid_many (m_laid_row n) (m_laid_either n) (m_laid_many n) (m_laid_times n) (m_laid n) := rfl
theorem m_laid_times_succ (n : Nat) : m_laid_times (n + 1) = B_laid_times (m_laid_row n) (m_laid_either n) (m_laid_many n) (m_laid_times n) (m_laid n) := rfl
theorem m_laid_succ (n : Nat) : m_laid (n + 1) = B_laid (m_laid_row n) (m_laid_either n) (m_laid_many n) (m_laid_times n) (m_laid n) := rfl
theorem ok_scc_laid_row {P : Program} {w : World} {K : PySem.W.Frag} {mg : Str → Option Value} {base : Heap} {cl : Str → Addr} (d_laid_row : DefAt K mg "laid_row" (topS 10) ["plan", "parts"]) (d_laid_either : DefAt K mg "laid_either" (topS 11) ["plan", "parts"]) (d_laid_many : DefAt K mg "laid_many" (topS 12) ["plan", "part"]) (d_laid_times : DefAt K mg "laid_times" (topS 13) ["plan", "part", "low", "high"]) (d_laid : DefAt K mg "laid" (topS 14) ["plan", "shape"]) (F_in_turn : FnG P w K mg base ⟨K, cl⟩ "in_turn" 2 3 m_in_turn) (F_Plan_link : Mtd P w K mg base ⟨K, cl⟩ "Plan" "link" 1 3 m_Plan_link) (z_range : mg "range" = none) (F_Plan_lay : Mtd P w K mg base ⟨K, cl⟩ "Plan" "lay" 1 2 m_Plan_lay) (n : Nat) : FnG P w K mg base ⟨K, cl⟩ "laid_row" (2 + n) 2 (m_laid_row n) ∧ FnG P w K mg base ⟨K, cl⟩ "laid_either" (2 + n) 2 (m_laid_either n) ∧ FnG P w K mg base ⟨K, cl⟩ "laid_many" (2 + n) 2 (m_laid_many n) ∧ FnG P w K mg base ⟨K, cl⟩ "laid_times" (2 + n) 4 (m_laid_times n) ∧ FnG P w K mg base ⟨K, cl⟩ "laid" (2 + n) 2 (m_laid n) := by
  induction n with
  | zero => exact ⟨fnG_no d_laid_row rfl, fnG_no d_laid_either rfl, fnG_no d_laid_many rfl, fnG_no d_laid_times rfl, fnG_no d_laid rfl⟩
  | succ n ih => exact ⟨d_laid_row.fn fun f fd F => okf_laid_row (Nat.le_add_right _ _) F F_in_turn ih.1 ih.2.1 ih.2.2.1 ih.2.2.2.1 ih.2.2.2.2, d_laid_either.fn fun f fd F => okf_laid_either (Nat.le_add_right _ _) F ih.1 ih.2.1 ih.2.2.1 ih.2.2.2.1 ih.2.2.2.2, d_laid_many.fn fun f fd F => okf_laid_many (Nat.le_add_right _ _) F F_Plan_link ih.1 ih.2.1 ih.2.2.1 ih.2.2.2.1 ih.2.2.2.2, d_laid_times.fn fun f fd F => okf_laid_times (Nat.le_add_right _ _) F z_range F_in_turn ih.1 ih.2.1 ih.2.2.1 ih.2.2.2.1 ih.2.2.2.2, d_laid.fn fun f fd F => okf_laid (Nat.le_add_right _ _) F F_Plan_lay ih.1 ih.2.1 ih.2.2.1 ih.2.2.2.1 ih.2.2.2.2⟩
/-! spread -/
noncomputable def e_spread_1 : ME := mB bTupleX (mCons (mFz (mB bSorted (mCons (mVar 6) (mNil)))) (mNil))
noncomputable def m_spread : MF := fnM 7 (msCons (msIf (mTb (mOp dGt (mCall 1 ((m_weight 24)) (mCons (mVar 0) (mNil))) (mC c_MOST_WEIGHT))) (msRaise "TooHeavy") (msNil))
    (msCons (msSet 1 (mNew "Plan" 1 (m_Plan___init__) mNil))
    (msCons (msSetT (gSets [2, 3, 4]) (mCall 2 ((m_laid 24)) (mCons (mVar 1) (mCons (mVar 0) (mNil)))))
    (msCons (msExpr (mMth "Plan" "link" 3 (m_Plan_link) (mVar 1) (mCons (mFz (mLst (mCons (mC (.int 0)) (mNil)))) (mCons (mVar 2) (mNil)))))
    (msCons (msIf (mTr (mVar 4)) (msSet 3 (mFz (mOp dAdd (mFz (mLst (mCons (mC (.int 0)) (mNil)))) (mVar 3)))) (msNil))
    (msCons (msSet 5 (mB bTupleX (mCons (mFz (mLc (iSeq (mFld "Plan" "nexts" (mVar 1))) (gSet 6) mYes e_spread_1 [6])) (mNil))))
    (msRet (mTup (mCons (mB bTupleX (mCons (mFld "Plan" "marks" (mVar 1)) (mNil))) (mCons (mVar 5) (mCons (mB bTupleX (mCons (mFz (mSS (mVar 3))) (mNil))) (mNil))))))))))))
theorem sc_spread : FnScope ["shape", "plan", "firsts", "lasts", "empty", "nexts", "row"] ["shape"] (defScope (topS 15)) := ⟨rfl, rfl, rfl, by decide +kernel, rfl, by decide +kernel, by decide +kernel⟩
theorem okf_spread {P : Program} {w : World} {K : PySem.W.Frag} {mg : Str → Option Value} {base : Heap} {cl : Str → Addr} {f : Addr} {fd : FuncData} (F : Fun K "spread" "spread" (topS 15) f fd) (z_sorted : mg "sorted" = none) (z_tuple : mg "tuple" = none) (z_set : mg "set" = none) (g_MOST_WEIGHT : GlC mg "MOST_WEIGHT" c_MOST_WEIGHT) (x_TooHeavy : ExC1 K mg "TooHeavy" (cl "TooHeavy")) (q_Plan : Cls K (cl "Plan")) (n_Plan_marks : NoAttr K (cl "Plan") "marks") (n_Plan_nexts : NoAttr K (cl "Plan") "nexts") (F_weight : FnG P w K mg base ⟨K, cl⟩ "weight" 25 1 (m_weight 24)) (F_Plan___init__ : Mkd P w K mg base ⟨K, cl⟩ "Plan" 1 1 m_Plan___init__) (F_laid : FnG P w K mg base ⟨K, cl⟩ "laid" 26 2 (m_laid 24)) (F_Plan_link : Mtd P w K mg base ⟨K, cl⟩ "Plan" "link" 1 3 m_Plan_link) : FnOk P w K mg base (L2.CX P w) 27 f fd ["shape"] (FSp ⟨K, cl⟩ 1 m_spread) :=
  fnPM F sc_spread rfl fun cdv A outer s H E hr tk hp => mss_cons (ms_if (mt_cmp op_gt opS_C (me_callG F_weight hr (by decide) tk (ma_cons (me_var 0) (ma_nil))) (me_globG g_MOST_WEIGHT)) (mss_one (ms_raise rfl tk x_TooHeavy)) (mss_nil))
    (mss_cons (ms_set 1 sc_spread.nd (me_mk0 F_Plan___init__ hr (by decide) tk))
    (mss_cons (ms_setT (me_callG F_laid hr (by decide) tk (ma_cons (me_var 1) (ma_cons (me_var 0) (ma_nil)))) (mg_tup rfl rfl (.cons (pg_name (i := 2) sc_spread.nd rfl (by first | exact Or.inl rfl | exact Or.inr rfl)) (.cons (pg_name (i := 3) sc_spread.nd rfl (by first | exact Or.inl rfl | exact Or.inr rfl)) (.cons (pg_name (i := 4) sc_spread.nd rfl (by first | exact Or.inl rfl | exact Or.inr rfl)) (.nil) rfl) rfl) rfl)))
    (mss_cons (ms_expr (me_mth F_Plan_link hr (by decide) tk (me_var 1) (ma_cons (me_fz (me_lst (ma_cons (me_int) (ma_nil)))) (ma_cons (me_var 2) (ma_nil)))))
    (mss_cons (ms_if (mt_val rfl (me_var 4)) (mss_one (ms_set 3 sc_spread.nd (me_fz (me_add rfl (me_fz (me_lst (ma_cons (me_int) (ma_nil)))) (me_var 3))))) (mss_nil))
    (mss_cons (ms_set 5 sc_spread.nd (me_callT (call_tupleX rfl) bTupleX_ok z_tuple (by decide +kernel) (ma_cons (me_fz (me_lc (own := [("row", 6)]) rfl sc_spread.nd (mi_seq rfl (me_fld rfl q_Plan n_Plan_nexts (me_var 1))) (blkOk_by (N := ["shape", "plan", "firsts", "lasts", "empty", "nexts", "row"]) (sc := defScope (topS 15)) (by decide +kernel)) (fun _ _ _ _ _ => mg_name 6 sc_spread.nd) (fun _ _ _ _ _ => mts_nil) (fun _ _ _ _ _ => me_callT (call_tupleX rfl) bTupleX_ok z_tuple (by decide +kernel) (ma_cons (me_fz (me_callB cr_sortedI bSorted_ok z_sorted (by decide +kernel) (ma_cons (me_var 6) (ma_nil)))) (ma_nil))))) (ma_nil))))
    (mss_one (ms_ret (me_tup (ma_cons (me_callT (call_tupleX rfl) bTupleX_ok z_tuple (by decide +kernel) (ma_cons (me_fld rfl q_Plan n_Plan_marks (me_var 1)) (ma_nil))) (ma_cons (me_var 5) (ma_cons (me_callT (call_tupleX rfl) bTupleX_ok z_tuple (by decide +kernel) (ma_cons (me_fz (me_sortset rfl rfl (me_var 3) z_sorted z_set)) (ma_nil))) (ma_nil))))))))))))
theorem ok_spread {P : Program} {w : World} {K : PySem.W.Frag} {mg : Str → Option Value} {base : Heap} {cl : Str → Addr} (d : DefAt K mg "spread" (topS 15) ["shape"]) (z_sorted : mg "sorted" = none) (z_tuple : mg "tuple" = none) (z_set : mg "set" = none) (g_MOST_WEIGHT : GlC mg "MOST_WEIGHT" c_MOST_WEIGHT) (x_TooHeavy : ExC1 K mg "TooHeavy" (cl "TooHeavy")) (q_Plan : Cls K (cl "Plan")) (n_Plan_marks : NoAttr K (cl "Plan") "marks") (n_Plan_nexts : NoAttr K (cl "Plan") "nexts") (F_weight : FnG P w K mg base ⟨K, cl⟩ "weight" 25 1 (m_weight 24)) (F_Plan___init__ : Mkd P w K mg base ⟨K, cl⟩ "Plan" 1 1 m_Plan___init__) (F_laid : FnG P w K mg base ⟨K, cl⟩ "laid" 26 2 (m_laid 24)) (F_Plan_link : Mtd P w K mg base ⟨K, cl⟩ "Plan" "link" 1 3 m_Plan_link) : FnG P w K mg base ⟨K, cl⟩ "spread" 27 1 m_spread := d.fn fun f fd F => okf_spread F z_sorted z_tuple z_set g_MOST_WEIGHT x_TooHeavy q_Plan n_Plan_marks n_Plan_nexts F_weight F_Plan___init__ F_laid F_Plan_link
/-! _law_shape -/
noncomputable def b__law_shape_1 (r__law_shape : MF) : MS := msIf (mTb (mOp dGt (mOp dIx (mVar 4) (mC (.int 0))) (mC (.int 0)))) (msCons (msSet 10 (mCall 5 (r__law_shape) (mCons (mVar 0) (mCons (mVar 1) (mCons (mOp dSub (mVar 2) (mC (.int 1))) (mCons (mVar 3) (mCons (mVar 4) (mNil))))))))
    (msCons (msAug 3 dISub (mCall 1 ((m__law_weight 24)) (mCons (mVar 10) (mNil))))
    (msExpr (mMeth "list" fAppend (mVar 8) (mCons (mVar 10) (mNil)))))) (msNil)
noncomputable def B__law_shape (r__law_shape : MF) : MF := fnM 11 (msCons (msAugI dISub (mVar 4) (mC (.int 0)) (mC (.int 1)))
    (msCons (msSet 5 (mCall 2 (m__law_draw) (mCons (mVar 0) (mCons (mC (.int 9)) (mNil)))))
    (msCons (msIf (mOr (mTb (mOp (dEq false) (mVar 2) (mC (.int 1)))) (mOr (mTb (mOp dLt (mOp dIx (mVar 4) (mC (.int 0))) (mC (.int 1)))) (mTb (mOp (dEq false) (mVar 5) (mC (.int 0)))))) (msCons (msIf (mOr (mTb (mOp (dEq false) (mVar 3) (mC (.int 0)))) (mTb (mOp (dEq false) (mCall 2 (m__law_draw) (mCons (mVar 0) (mCons (mC (.int 8)) (mNil)))) (mC (.int 0))))) (msRet (mTup (mCons (mC (.str [114, 111, 119])) (mCons (mTup (mNil)) (mNil))))) (msNil))
    (msRet (mTup (mCons (mC (.str [111, 110, 101])) (mCons (mCall 2 (m__law_ones) (mCons (mVar 0) (mCons (mVar 1) (mNil)))) (mNil)))))) (msNil))
    (msCons (msIf (mTb (mOp dLt (mVar 5) (mC (.int 3)))) (msRet (mTup (mCons (mC (.str [109, 97, 110, 121])) (mCons (mCall 5 (r__law_shape) (mCons (mVar 0) (mCons (mVar 1) (mCons (mOp dSub (mVar 2) (mC (.int 1))) (mCons (mVar 3) (mCons (mVar 4) (mNil))))))) (mNil))))) (msNil))
    (msCons (msIf (mTb (mOp dLt (mVar 5) (mC (.int 5)))) (msCons (msSet 6 (mCall 2 (m__law_draw) (mCons (mVar 0) (mCons (mC (.int 5)) (mNil)))))
    (msCons (msSet 7 (mCall 2 (m__law_draw) (mCons (mVar 0) (mCons (mOp dAdd (mVar 6) (mC (.int 1))) (mNil)))))
    (msRet (mTup (mCons (mC (.str [116, 105, 109, 101, 115])) (mCons (mCall 5 (r__law_shape) (mCons (mVar 0) (mCons (mVar 1) (mCons (mOp dSub (mVar 2) (mC (.int 1))) (mCons (mOp dDiv (mVar 3) (mB bMax2 (mCons (mC (.int 1)) (mCons (mVar 6) (mNil))))) (mCons (mVar 4) (mNil))))))) (mCons (mVar 7) (mCons (mVar 6) (mNil))))))))) (msNil))
    (msCons (msSet 8 (mLst (mNil)))
    (msCons (msFor (iRange1 (mCons (mOp dIx (mTup (mCons (mC (.int 1)) (mCons (mC (.int 2)) (mCons (mC (.int 2)) (mCons (mC (.int 3)) (mCons (mC (.int 3)) (mCons (mC (.int 4)) (mCons (mC (.int 5)) (mCons (mC (.int 6)) (mNil)))))))))) (mCall 2 (m__law_draw) (mCons (mVar 0) (mCons (mC (.int 8)) (mNil))))) (mNil))) (gSet 9) (b__law_shape_1 r__law_shape))
    (msRet (mTup (mCons (mOp dIx (mTup (mCons (mC (.str [114, 111, 119])) (mCons (mC (.str [101, 105, 116, 104, 101, 114])) (mNil)))) (mOp dDiv (mVar 5) (mC (.int 7)))) (mCons (mB bTupleX (mCons (mVar 8) (mNil))) (mNil))))))))))))
theorem sc__law_shape : FnScope ["_law_left", "_law_tongue_here", "_law_deep", "_law_purse", "_law_room", "_law_sort", "_law_high", "_law_low", "_law_parts", "_law_k", "_law_part"] ["_law_left", "_law_tongue_here", "_law_deep", "_law_purse", "_law_room"] (defScope (topS 23)) := ⟨rfl, rfl, rfl, by decide +kernel, rfl, by decide +kernel, by decide +kernel⟩
theorem okf__law_shape {P : Program} {w : World} {K : PySem.W.Frag} {mg : Str → Option Value} {base : Heap} {cl : Str → Addr} {k : Nat} {r__law_shape : MF} (hk : 24 ≤ k) {f : Addr} {fd : FuncData} (F : Fun K "_law_shape" "_law_shape" (topS 23) f fd) (z_max : mg "max" = none) (z_range : mg "range" = none) (z_tuple : mg "tuple" = none) (F__law_draw : FnG P w K mg base ⟨K, cl⟩ "_law_draw" 1 2 m__law_draw) (F__law_ones : FnG P w K mg base ⟨K, cl⟩ "_law_ones" 2 2 m__law_ones) (F__law_weight : FnG P w K mg base ⟨K, cl⟩ "_law_weight" 24 1 (m__law_weight 24)) (F__law_shape : FnG P w K mg base ⟨K, cl⟩ "_law_shape" k 5 r__law_shape) : FnOk P w K mg base (L2.CX P w) (k + 1) f fd ["_law_left", "_law_tongue_here", "_law_deep", "_law_purse", "_law_room"] (FSp ⟨K, cl⟩ 5 (B__law_shape r__law_shape)) :=
  fnPM F sc__law_shape rfl fun cdv A outer s H E hr tk hp => mss_cons (ms_augI rfl iop_sub isub_ok (me_var 4) (me_int) (me_int))
    (mss_cons (ms_set 5 sc__law_shape.nd (me_callG F__law_draw hr (Nat.le_trans (by decide) hk) tk (ma_cons (me_var 0) (ma_cons (me_int) (ma_nil)))))
    (mss_cons (ms_if (mt_w (mw_or (mt_cmp (op_eqP hr.units) (dEq_ok rfl) (me_var 2) (me_int)) (mw_or (mt_cmp op_lt opS_C (me_ix rfl (me_var 4) (me_int)) (me_int)) (mw_or1 (mt_cmp (op_eqP hr.units) (dEq_ok rfl) (me_var 5) (me_int)))))) (mss_cons (ms_if (mt_w (mw_or (mt_cmp (op_eqP hr.units) (dEq_ok rfl) (me_var 3) (me_int)) (mw_or1 (mt_cmp (op_eqP hr.units) (dEq_ok rfl) (me_callG F__law_draw hr (Nat.le_trans (by decide) hk) tk (ma_cons (me_var 0) (ma_cons (me_int) (ma_nil)))) (me_int))))) (mss_one (ms_ret (me_tup (ma_cons (me_str [114, 111, 119]) (ma_cons (me_tup (ma_nil)) (ma_nil)))))) (mss_nil))
    (mss_one (ms_ret (me_tup (ma_cons (me_str [111, 110, 101]) (ma_cons (me_callG F__law_ones hr (Nat.le_trans (by decide) hk) tk (ma_cons (me_var 0) (ma_cons (me_var 1) (ma_nil)))) (ma_nil))))))) (mss_nil))
    (mss_cons (ms_if (mt_cmp op_lt opS_C (me_var 5) (me_int)) (mss_one (ms_ret (me_tup (ma_cons (me_str [109, 97, 110, 121]) (ma_cons (me_callG F__law_shape hr (Nat.le_refl _) tk (ma_cons (me_var 0) (ma_cons (me_var 1) (ma_cons (me_sub (me_var 2) (me_int)) (ma_cons (me_var 3) (ma_cons (me_var 4) (ma_nil))))))) (ma_nil)))))) (mss_nil))
    (mss_cons (ms_if (mt_cmp op_lt opS_C (me_var 5) (me_int)) (mss_cons (ms_set 6 sc__law_shape.nd (me_callG F__law_draw hr (Nat.le_trans (by decide) hk) tk (ma_cons (me_var 0) (ma_cons (me_int) (ma_nil)))))
    (mss_cons (ms_set 7 sc__law_shape.nd (me_callG F__law_draw hr (Nat.le_trans (by decide) hk) tk (ma_cons (me_var 0) (ma_cons (me_add rfl (me_var 6) (me_int)) (ma_nil)))))
    (mss_one (ms_ret (me_tup (ma_cons (me_str [116, 105, 109, 101, 115]) (ma_cons (me_callG F__law_shape hr (Nat.le_refl _) tk (ma_cons (me_var 0) (ma_cons (me_var 1) (ma_cons (me_sub (me_var 2) (me_int)) (ma_cons (me_div (me_var 3) (me_callB (call_max2 rfl) bMax2_ok z_max (by decide +kernel) (ma_cons (me_int) (ma_cons (me_var 6) (ma_nil))))) (ma_cons (me_var 4) (ma_nil))))))) (ma_cons (me_var 7) (ma_cons (me_var 6) (ma_nil)))))))))) (mss_nil))
    (mss_cons (ms_set 8 sc__law_shape.nd (me_lst (ma_nil)))
    (mss_cons (ms_for rfl hp (mi_range1 (ma_cons (me_ix rfl (me_tup (ma_cons (me_int) (ma_cons (me_int) (ma_cons (me_int) (ma_cons (me_int) (ma_cons (me_int) (ma_cons (me_int) (ma_cons (me_int) (ma_cons (me_int) (ma_nil)))))))))) (me_callG F__law_draw hr (Nat.le_trans (by decide) hk) tk (ma_cons (me_var 0) (ma_cons (me_int) (ma_nil))))) (ma_nil)) z_range) (mg_name 9 sc__law_shape.nd) (mss_one (ms_if (mt_cmp op_gt opS_C (me_ix rfl (me_var 4) (me_int)) (me_int)) (mss_cons (ms_set 10 sc__law_shape.nd (me_callG F__law_shape hr (Nat.le_refl _) tk (ma_cons (me_var 0) (ma_cons (me_var 1) (ma_cons (me_sub (me_var 2) (me_int)) (ma_cons (me_var 3) (ma_cons (me_var 4) (ma_nil))))))))
    (mss_cons (ms_aug 3 sc__law_shape.nd iop_sub isub_ok (me_callG F__law_weight hr (Nat.le_trans (by decide) hk) tk (ma_cons (me_var 10) (ma_nil))))
    (mss_one (ms_expr (me_meth rfl PySem.F.plainAttrs_list PySem.F.slot_list_append PySem.F.type_list_append mt_append fAppend_ok (me_var 8) (ma_cons (me_var 10) (ma_nil))))))) (mss_nil))))
    (mss_one (ms_ret (me_tup (ma_cons (me_ix rfl (me_tup (ma_cons (me_str [114, 111, 119]) (ma_cons (me_str [101, 105, 116, 104, 101, 114]) (ma_nil)))) (me_div (me_var 5) (me_int))) (ma_cons (me_callT (call_tupleX rfl) bTupleX_ok z_tuple (by decide +kernel) (ma_cons (me_var 8) (ma_nil))) (ma_nil))))))))))))
noncomputable def scc__law_shape : Nat → MF
  | 0 => (mNo)
  | n + 1 => (B__law_shape (scc__law_shape n))
noncomputable def m__law_shape (n : Nat) : MF := (scc__law_shape n)
theorem m__law_shape_succ (n : Nat) : m__law_shape (n + 1) = B__law_shape (m__law_shape n) := rfl
theorem ok_scc__law_shape {P : Program} {w : World} {K : PySem.W.Frag} {mg : Str → Option Value} {base : Heap} {cl : Str → Addr} (d__law_shape : DefAt K mg "_law_shape" (topS 23) ["_law_left", "_law_tongue_here", "_law_deep", "_law_purse", "_law_room"]) (z_max : mg "max" = none) (z_range : mg "range" = none) (z_tuple : mg "tuple" = none) (F__law_draw : FnG P w K mg base ⟨K, cl⟩ "_law_draw" 1 2 m__law_draw) (F__law_ones : FnG P w K mg base ⟨K, cl⟩ "_law_ones" 2 2 m__law_ones) (F__law_weight : FnG P w K mg base ⟨K, cl⟩ "_law_weight" 24 1 (m__law_weight 24)) (n : Nat) : FnG P w K mg base ⟨K, cl⟩ "_law_shape" (24 + n) 5 (m__law_shape n) := by
  induction n with
  | zero => exact fnG_no d__law_shape rfl
  | succ n ih => exact d__law_shape.fn fun f fd F => okf__law_shape (Nat.le_add_right _ _) F z_max z_range z_tuple F__law_draw F__law_ones F__law_weight ih
/-! _law_comes -/
noncomputable def b__law_comes_1 (r__law_comes r__law_comes_behind r__law_comes_often : MF) : MS := msCons (msIf (mTb (mOp (dEq false) (mOp dIx (mVar 0) (mC (.int 0))) (mC (.str [101, 105, 116, 104, 101, 114])))) (msAug 4 dIAddL (mCall 4 (r__law_comes) (mCons (mVar 8) (mCons (mVar 1) (mCons (mVar 2) (mCons (mVar 3) (mNil))))))) (msCons (msIf (mAnd (mTb (mOp (dEq false) (mOp dIx (mVar 0) (mC (.int 0))) (mC (.str [116, 105, 109, 101, 115])))) (mTb (mOp dGe (mVar 7) (mVar 6)))) (msAug 4 dIAddL (mVar 5)) (msNil))
    (msSet 5 (mCall 4 (r__law_comes_behind) (mCons (mVar 8) (mCons (mVar 1) (mCons (mVar 2) (mCons (mVar 5) (mNil)))))))))
    (msAug 1 dIAdd (mCall 1 ((m__law_weight 24)) (mCons (mVar 8) (mNil))))
noncomputable def B__law_comes (r__law_comes r__law_comes_behind r__law_comes_often : MF) : MF := fnM 9 (msCons (msIf (mTb (mOp (dEq false) (mCall 1 ((m__law_weight 24)) (mCons (mVar 0) (mNil))) (mC (.int 0)))) (msRet (mLst (mCons (mVar 3) (mNil)))) (msNil))
    (msCons (msIf (mTb (mOp (dEq false) (mOp dIx (mVar 0) (mC (.int 0))) (mC (.str [111, 110, 101])))) (msRet (mIf (mAnd (mTb (mOp dLt (mVar 3) (mB bLen (mCons (mVar 2) (mNil))))) (mTb (mOp (dEq false) (mOp dIx (mVar 2) (mVar 3)) (mOp dAdd (mVar 1) (mC (.int 1)))))) (mLst (mCons (mOp dAdd (mVar 3) (mC (.int 1))) (mNil))) (mLst (mNil)))) (msNil))
    (msCons (msIf (mTb (mOp (dEq false) (mOp dIx (mVar 0) (mC (.int 0))) (mC (.str [109, 97, 110, 121])))) (msRet (mCall 4 (r__law_comes_often) (mCons (mOp dIx (mVar 0) (mC (.int 1))) (mCons (mVar 1) (mCons (mVar 2) (mCons (mVar 3) (mNil))))))) (msNil))
    (msCons (msSet 4 (mLst (mNil)))
    (msCons (msSet 5 (mLst (mCons (mVar 3) (mNil))))
    (msCons (msSet 6 (mIf (mTb (mOp (dEq false) (mOp dIx (mVar 0) (mC (.int 0))) (mC (.str [116, 105, 109, 101, 115])))) (mOp dIx (mVar 0) (mC (.int 2))) (mC (.int 0))))
    (msCons (msFor (iEnum (mCons (mCall 1 (m__law_laid) (mCons (mVar 0) (mNil))) (mNil))) (gSets [7, 8]) (b__law_comes_1 r__law_comes r__law_comes_behind r__law_comes_often))
    (msCons (msIf (mTb (mOp (dEq true) (mOp dIx (mVar 0) (mC (.int 0))) (mC (.str [101, 105, 116, 104, 101, 114])))) (msAug 4 dIAddL (mVar 5)) (msNil))
    (msRet (mSS (mVar 4)))))))))))
theorem sc__law_comes : FnScope ["_law_shape_here", "_law_at", "_law_row", "_law_k", "_law_found", "_law_here", "_law_low", "_law_count", "_law_part"] ["_law_shape_here", "_law_at", "_law_row", "_law_k"] (defScope (topS 25)) := ⟨rfl, rfl, rfl, by decide +kernel, rfl, by decide +kernel, by decide +kernel⟩
theorem okf__law_comes {P : Program} {w : World} {K : PySem.W.Frag} {mg : Str → Option Value} {base : Heap} {cl : Str → Addr} {k : Nat} {r__law_comes r__law_comes_behind r__law_comes_often : MF} (hk : 24 ≤ k) {f : Addr} {fd : FuncData} (F : Fun K "_law_comes" "_law_comes" (topS 25) f fd) (z_len : mg "len" = none) (z_enumerate : mg "enumerate" = none) (z_sorted : mg "sorted" = none) (z_set : mg "set" = none) (F__law_weight : FnG P w K mg base ⟨K, cl⟩ "_law_weight" 24 1 (m__law_weight 24)) (F__law_laid : FnG P w K mg base ⟨K, cl⟩ "_law_laid" 1 1 m__law_laid) (F__law_comes : FnG P w K mg base ⟨K, cl⟩ "_law_comes" k 4 r__law_comes) (F__law_comes_behind : FnG P w K mg base ⟨K, cl⟩ "_law_comes_behind" k 4 r__law_comes_behind) (F__law_comes_often : FnG P w K mg base ⟨K, cl⟩ "_law_comes_often" k 4 r__law_comes_often) : FnOk P w K mg base (L2.CX P w) (k + 1) f fd ["_law_shape_here", "_law_at", "_law_row", "_law_k"] (FSp ⟨K, cl⟩ 4 (B__law_comes r__law_comes r__law_comes_behind r__law_comes_often)) :=
  fnPM F sc__law_comes rfl fun cdv A outer s H E hr tk hp => mss_cons (ms_if (mt_cmp (op_eqP hr.units) (dEq_ok rfl) (me_callG F__law_weight hr (Nat.le_trans (by decide) hk) tk (ma_cons (me_var 0) (ma_nil))) (me_int)) (mss_one (ms_ret (me_lst (ma_cons (me_var 3) (ma_nil))))) (mss_nil))
    (mss_cons (ms_if (mt_cmp (op_eqP hr.units) (dEq_ok rfl) (me_ix rfl (me_var 0) (me_int)) (me_str [111, 110, 101])) (mss_one (ms_ret (me_ifExp (mt_w (mw_and (mt_cmp op_lt opS_C (me_var 3) (me_callB call_lenA bLen_ok z_len (by decide +kernel) (ma_cons (me_var 2) (ma_nil)))) (mw_and1 (mt_cmp (op_eqP hr.units) (dEq_ok rfl) (me_ix rfl (me_var 2) (me_var 3)) (me_add rfl (me_var 1) (me_int)))))) (me_lst (ma_cons (me_add rfl (me_var 3) (me_int)) (ma_nil))) (me_lst (ma_nil))))) (mss_nil))
    (mss_cons (ms_if (mt_cmp (op_eqP hr.units) (dEq_ok rfl) (me_ix rfl (me_var 0) (me_int)) (me_str [109, 97, 110, 121])) (mss_one (ms_ret (me_callG F__law_comes_often hr (Nat.le_refl _) tk (ma_cons (me_ix rfl (me_var 0) (me_int)) (ma_cons (me_var 1) (ma_cons (me_var 2) (ma_cons (me_var 3) (ma_nil)))))))) (mss_nil))
    (mss_cons (ms_set 4 sc__law_comes.nd (me_lst (ma_nil)))
    (mss_cons (ms_set 5 sc__law_comes.nd (me_lst (ma_cons (me_var 3) (ma_nil))))
    (mss_cons (ms_set 6 sc__law_comes.nd (me_ifExp (mt_cmp (op_eqP hr.units) (dEq_ok rfl) (me_ix rfl (me_var 0) (me_int)) (me_str [116, 105, 109, 101, 115])) (me_ix rfl (me_var 0) (me_int)) (me_int)))
    (mss_cons (ms_for rfl hp (mi_enum rfl (ma_cons (me_callG F__law_laid hr (Nat.le_trans (by decide) hk) tk (ma_cons (me_var 0) (ma_nil))) (ma_nil)) z_enumerate) (mg_tup rfl rfl (.cons (pg_name (i := 7) sc__law_comes.nd rfl (by first | exact Or.inl rfl | exact Or.inr rfl)) (.cons (pg_name (i := 8) sc__law_comes.nd rfl (by first | exact Or.inl rfl | exact Or.inr rfl)) (.nil) rfl) rfl)) (mss_cons (ms_if (mt_cmp (op_eqP hr.units) (dEq_ok rfl) (me_ix rfl (me_var 0) (me_int)) (me_str [101, 105, 116, 104, 101, 114])) (mss_one (ms_aug 4 sc__law_comes.nd iop_ext dIAddL_ok (me_callG F__law_comes hr (Nat.le_refl _) tk (ma_cons (me_var 8) (ma_cons (me_var 1) (ma_cons (me_var 2) (ma_cons (me_var 3) (ma_nil)))))))) (mss_cons (ms_if (mt_w (mw_and (mt_cmp (op_eqP hr.units) (dEq_ok rfl) (me_ix rfl (me_var 0) (me_int)) (me_str [116, 105, 109, 101, 115])) (mw_and1 (mt_cmp op_ge opS_C (me_var 7) (me_var 6))))) (mss_one (ms_aug 4 sc__law_comes.nd iop_ext dIAddL_ok (me_var 5))) (mss_nil))
    (mss_one (ms_set 5 sc__law_comes.nd (me_callG F__law_comes_behind hr (Nat.le_refl _) tk (ma_cons (me_var 8) (ma_cons (me_var 1) (ma_cons (me_var 2) (ma_cons (me_var 5) (ma_nil))))))))))
    (mss_one (ms_aug 1 sc__law_comes.nd iop_addA iadd_ok (me_callG F__law_weight hr (Nat.le_trans (by decide) hk) tk (ma_cons (me_var 8) (ma_nil)))))))
    (mss_cons (ms_if (mt_cmp (op_neP hr.units) (dNe_ok rfl) (me_ix rfl (me_var 0) (me_int)) (me_str [101, 105, 116, 104, 101, 114])) (mss_one (ms_aug 4 sc__law_comes.nd iop_ext dIAddL_ok (me_var 5))) (mss_nil))
    (mss_one (ms_ret (me_sortset rfl rfl (me_var 4) z_sorted z_set))))))))))
/-! _law_comes_behind -/
noncomputable def b__law_comes_behind_1 (r__law_comes r__law_comes_behind r__law_comes_often : MF) : MS := msAug 4 dIAddL (mCall 4 (r__law_comes) (mCons (mVar 0) (mCons (mVar 1) (mCons (mVar 2) (mCons (mVar 5) (mNil))))))
noncomputable def B__law_comes_behind (r__law_comes r__law_comes_behind r__law_comes_often : MF) : MF := fnM 6 (msCons (msSet 4 (mLst (mNil)))
    (msCons (msFor (iSeq (mVar 3)) (gSet 5) (b__law_comes_behind_1 r__law_comes r__law_comes_behind r__law_comes_often))
    (msRet (mSS (mVar 4)))))
theorem sc__law_comes_behind : FnScope ["_law_part", "_law_at", "_law_row", "_law_here", "_law_told", "_law_k"] ["_law_part", "_law_at", "_law_row", "_law_here"] (defScope (topS 26)) := ⟨rfl, rfl, rfl, by decide +kernel, rfl, by decide +kernel, by decide +kernel⟩
theorem okf__law_comes_behind {P : Program} {w : World} {K : PySem.W.Frag} {mg : Str → Option Value} {base : Heap} {cl : Str → Addr} {k : Nat} {r__law_comes r__law_comes_behind r__law_comes_often : MF} (hk : 24 ≤ k) {f : Addr} {fd : FuncData} (F : Fun K "_law_comes_behind" "_law_comes_behind" (topS 26) f fd) (z_sorted : mg "sorted" = none) (z_set : mg "set" = none) (F__law_comes : FnG P w K mg base ⟨K, cl⟩ "_law_comes" k 4 r__law_comes) (F__law_comes_behind : FnG P w K mg base ⟨K, cl⟩ "_law_comes_behind" k 4 r__law_comes_behind) (F__law_comes_often : FnG P w K mg base ⟨K, cl⟩ "_law_comes_often" k 4 r__law_comes_often) : FnOk P w K mg base (L2.CX P w) (k + 1) f fd ["_law_part", "_law_at", "_law_row", "_law_here"] (FSp ⟨K, cl⟩ 4 (B__law_comes_behind r__law_comes r__law_comes_behind r__law_comes_often)) :=
  fnPM F sc__law_comes_behind rfl fun cdv A outer s H E hr tk hp => mss_cons (ms_set 4 sc__law_comes_behind.nd (me_lst (ma_nil)))
    (mss_cons (ms_for rfl hp (mi_seq rfl (me_var 3)) (mg_name 5 sc__law_comes_behind.nd) (mss_one (ms_aug 4 sc__law_comes_behind.nd iop_ext dIAddL_ok (me_callG F__law_comes hr (Nat.le_refl _) tk (ma_cons (me_var 0) (ma_cons (me_var 1) (ma_cons (me_var 2) (ma_cons (me_var 5) (ma_nil)))))))))
    (mss_one (ms_ret (me_sortset rfl rfl (me_var 4) z_sorted z_set))))
/-! _law_comes_often -/
noncomputable def b__law_comes_often_1 (r__law_comes r__law_comes_behind r__law_comes_often : MF) : MS := msIf (mTb (mOp (dIn true) (mVar 6) (mVar 4))) (msExpr (mMeth "list" fAppend (mVar 4) (mCons (mVar 6) (mNil)))) (msNil)
noncomputable def t__law_comes_often_2 (r__law_comes r__law_comes_behind r__law_comes_often : MF) : MT := mTb (mOp dLt (mVar 5) (mB bLen (mCons (mVar 4) (mNil))))
noncomputable def b__law_comes_often_3 (r__law_comes r__law_comes_behind r__law_comes_often : MF) : MS := msCons (msFor (iSeq (mFz (mCall 4 (r__law_comes) (mCons (mVar 0) (mCons (mVar 1) (mCons (mVar 2) (mCons (mOp dIx (mVar 4) (mVar 5)) (mNil)))))))) (gSet 6) (b__law_comes_often_1 r__law_comes r__law_comes_behind r__law_comes_often))
    (msAug 5 dIAdd (mC (.int 1)))
noncomputable def B__law_comes_often (r__law_comes r__law_comes_behind r__law_comes_often : MF) : MF := fnM 7 (msCons (msSet 4 (mLst (mCons (mVar 3) (mNil))))
    (msCons (msSet 5 (mC (.int 0)))
    (msCons (msWhile (t__law_comes_often_2 r__law_comes r__law_comes_behind r__law_comes_often) (b__law_comes_often_3 r__law_comes r__law_comes_behind r__law_comes_often))
    (msRet (mB bSorted (mCons (mVar 4) (mNil)))))))
theorem sc__law_comes_often : FnScope ["_law_part", "_law_at", "_law_row", "_law_k", "_law_found", "_law_at_one", "_law_end"] ["_law_part", "_law_at", "_law_row", "_law_k"] (defScope (topS 27)) := ⟨rfl, rfl, rfl, by decide +kernel, rfl, by decide +kernel, by decide +kernel⟩
theorem okf__law_comes_often {P : Program} {w : World} {K : PySem.W.Frag} {mg : Str → Option Value} {base : Heap} {cl : Str → Addr} {k : Nat} {r__law_comes r__law_comes_behind r__law_comes_often : MF} (hk : 24 ≤ k) {f : Addr} {fd : FuncData} (F : Fun K "_law_comes_often" "_law_comes_often" (topS 27) f fd) (z_len : mg "len" = none) (z_sorted : mg "sorted" = none) (F__law_comes : FnG P w K mg base ⟨K, cl⟩ "_law_comes" k 4 r__law_comes) (F__law_comes_behind : FnG P w K mg base ⟨K, cl⟩ "_law_comes_behind" k 4 r__law_comes_behind) (F__law_comes_often : FnG P w K mg base ⟨K, cl⟩ "_law_comes_often" k 4 r__law_comes_often) : FnOk P w K mg base (L2.CX P w) (k + 1) f fd ["_law_part", "_law_at", "_law_row", "_law_k"] (FSp ⟨K, cl⟩ 4 (B__law_comes_often r__law_comes r__law_comes_behind r__law_comes_often)) :=
  fnPM F sc__law_comes_often rfl fun cdv A outer s H E hr tk hp => mss_cons (ms_set 4 sc__law_comes_often.nd (me_lst (ma_cons (me_var 3) (ma_nil))))
    (mss_cons (ms_set 5 sc__law_comes_often.nd (me_int))
    (mss_cons (ms_while hp (mt_cmp op_lt opS_C (me_var 5) (me_callB call_lenA bLen_ok z_len (by decide +kernel) (ma_cons (me_var 4) (ma_nil)))) (mss_cons (ms_for rfl hp (mi_seq rfl (me_fz (me_callG F__law_comes hr (Nat.le_refl _) tk (ma_cons (me_var 0) (ma_cons (me_var 1) (ma_cons (me_var 2) (ma_cons (me_ix rfl (me_var 4) (me_var 5)) (ma_nil)))))))) (mg_name 6 sc__law_comes_often.nd) (mss_one (ms_if (mt_cmp (op_notInA hr.units) (dIn_ok rfl true) (me_var 6) (me_var 4)) (mss_one (ms_expr (me_meth rfl PySem.F.plainAttrs_list PySem.F.slot_list_append PySem.F.type_list_append mt_append fAppend_ok (me_var 4) (ma_cons (me_var 6) (ma_nil))))) (mss_nil))))
    (mss_one (ms_aug 5 sc__law_comes_often.nd iop_addA iadd_ok (me_int)))))
    (mss_one (ms_ret (me_callB cr_sortedI bSorted_ok z_sorted (by decide +kernel) (ma_cons (me_var 4) (ma_nil)))))))
noncomputable def scc__law_comes : Nat → MF × MF × MF
  | 0 => (mNo, mNo, mNo)
  | n + 1 => (B__law_comes (scc__law_comes n).1 (scc__law_comes n).2.1 (scc__law_comes n).2.2, B__law_comes_behind (scc__law_comes n).1 (scc__law_comes n).2.1 (scc__law_comes n).2.2, B__law_comes_often (scc__law_comes n).1 (scc__law_comes n).2.1 (scc__law_comes n).2.2)
noncomputable def m__law_comes (n : Nat) : MF := (scc__law_comes n).1
noncomputable def m__law_comes_behind (n : Nat) : MF := (scc__law_comes n).2.1
noncomputable def m__law_comes_often (n : Nat) : MF := (scc__law_comes n).2.2
theorem m__law_comes_succ (n : Nat) : m__law_comes (n + 1) = B__law_comes (m__law_comes n) (m__law_comes_behind n) (m__law_comes_often n) := rfl
theorem m__law_comes_behind_succ (n : Nat) : m__law_comes_behind (n + 1) = B__law_comes_behind (m__law_comes n) (m__law_comes_behind n) (m__law_comes_often n) := rfl
theorem m__law_comes_often_succ (n : Nat) : m__law_comes_often (n + 1) = B__law_comes_often (m__law_comes n) (m__law_comes_behind n) (m__law_comes_often n) := rfl
theorem ok_scc__law_comes {P : Program} {w : World} {K : PySem.W.Frag} {mg : Str → Option Value} {base : Heap} {cl : Str → Addr} (d__law_comes : DefAt K mg "_law_comes" (topS 25) ["_law_shape_here", "_law_at", "_law_row", "_law_k"]) (d__law_comes_behind : DefAt K mg "_law_comes_behind" (topS 26) ["_law_part", "_law_at", "_law_row", "_law_here"]) (d__law_comes_often : DefAt K mg "_law_comes_often" (topS 27) ["_law_part", "_law_at", "_law_row", "_law_k"]) (z_len : mg "len" = none) (z_enumerate : mg "enumerate" = none) (z_sorted : mg "sorted" = none) (z_set : mg "set" = none) (F__law_weight : FnG P w K mg base ⟨K, cl⟩ "_law_weight" 24 1 (m__law_weight 24)) (F__law_laid : FnG P w K mg base ⟨K, cl⟩ "_law_laid" 1 1 m__law_laid) (n : Nat) : FnG P w K mg base ⟨K, cl⟩ "_law_comes" (24 + n) 4 (m__law_comes n) ∧ FnG P w K mg base ⟨K, cl⟩ "_law_comes_behind" (24 + n) 4 (m__law_comes_behind n) ∧ FnG P w K mg base ⟨K, cl⟩ "_law_comes_often" (24 + n) 4 (m__law_comes_often n) := by
  induction n with
  | zero => exact ⟨fnG_no d__law_comes rfl, fnG_no d__law_comes_behind rfl, fnG_no d__law_comes_often rfl⟩
  | succ n ih => exact ⟨d__law_comes.fn fun f fd F => okf__law_comes (Nat.le_add_right _ _) F z_len z_enumerate z_sorted z_set F__law_weight F__law_laid ih.1 ih.2.1 ih.2.2, d__law_comes_behind.fn fun f fd F => okf__law_comes_behind (Nat.le_add_right _ _) F z_sorted z_set ih.1 ih.2.1 ih.2.2, d__law_comes_often.fn fun f fd F => okf__law_comes_often (Nat.le_add_right _ _) F z_len z_sorted ih.1 ih.2.1 ih.2.2⟩
/-! _law_course -/
noncomputable def b__law_course_1 (r__law_course : MF) : MS := msCons (msIf (mAnd (mTb (mOp dGt (mCall 1 ((m__law_weight 24)) (mCons (mVar 7) (mNil))) (mC (.int 0)))) (mOr (mTb (mOp dLt (mVar 4) (mC (.int 0)))) (mTb (mOp (dEq false) (mVar 4) (mVar 6))))) (msAug 5 dIAddL (mCall 3 (r__law_course) (mCons (mVar 0) (mCons (mVar 7) (mCons (mVar 2) (mNil)))))) (msNil))
    (msIf (mTb (mOp (dEq true) (mOp dIx (mVar 1) (mC (.int 0))) (mC (.str [109, 97, 110, 121])))) (msAug 2 dIAdd (mCall 1 ((m__law_weight 24)) (mCons (mVar 7) (mNil)))) (msNil))
noncomputable def B__law_course (r__law_course : MF) : MF := fnM 8 (msCons (msIf (mTb (mOp (dEq false) (mOp dIx (mVar 1) (mC (.int 0))) (mC (.str [111, 110, 101])))) (msRet (mLst (mCons (mOp dAdd (mVar 2) (mC (.int 1))) (mNil)))) (msNil))
    (msCons (msSet 3 (mCall 1 (m__law_laid) (mCons (mVar 1) (mNil))))
    (msCons (msIf (mTb (mOp (dEq false) (mOp dIx (mVar 1) (mC (.int 0))) (mC (.str [109, 97, 110, 121])))) (msSet 3 (mOp dMulZ (mTup (mCons (mOp dIx (mVar 1) (mC (.int 1))) (mNil))) (mCall 2 (m__law_draw) (mCons (mVar 0) (mCons (mC (.int 3)) (mNil)))))) (msNil))
    (msCons (msIf (mTb (mOp (dEq false) (mOp dIx (mVar 1) (mC (.int 0))) (mC (.str [116, 105, 109, 101, 115])))) (msSet 3 (mOp dMulZ (mTup (mCons (mOp dIx (mVar 1) (mC (.int 1))) (mNil))) (mFz (mOp dAdd (mOp dIx (mVar 1) (mC (.int 2))) (mCall 2 (m__law_draw) (mCons (mVar 0) (mCons (mOp dAdd (mOp dSub (mOp dIx (mVar 1) (mC (.int 3))) (mOp dIx (mVar 1) (mC (.int 2)))) (mC (.int 1))) (mNil)))))))) (msNil))
    (msCons (msSet 4 (mIf (mTb (mOp (dEq false) (mOp dIx (mVar 1) (mC (.int 0))) (mC (.str [101, 105, 116, 104, 101, 114])))) (mCall 2 (m__law_draw) (mCons (mVar 0) (mCons (mB bLen (mCons (mVar 3) (mNil))) (mNil)))) (mNeg (mC (.int 1)))))
    (msCons (msSet 5 (mLst (mNil)))
    (msCons (msFor (iEnum (mCons (mVar 3) (mNil))) (gSets [6, 7]) (b__law_course_1 r__law_course))
    (msRet (mVar 5)))))))))
theorem sc__law_course : FnScope ["_law_left", "_law_shape_here", "_law_at", "_law_parts", "_law_chosen", "_law_row", "_law_k", "_law_part"] ["_law_left", "_law_shape_here", "_law_at"] (defScope (topS 28)) := ⟨rfl, rfl, rfl, by decide +kernel, rfl, by decide +kernel, by decide +kernel⟩
theorem okf__law_course {P : Program} {w : World} {K : PySem.W.Frag} {mg : Str → Option Value} {base : Heap} {cl : Str → Addr} {k : Nat} {r__law_course : MF} (hk : 24 ≤ k) {f : Addr} {fd : FuncData} (F : Fun K "_law_course" "_law_course" (topS 28) f fd) (z_len : mg "len" = none) (z_enumerate : mg "enumerate" = none) (F__law_laid : FnG P w K mg base ⟨K, cl⟩ "_law_laid" 1 1 m__law_laid) (F__law_draw : FnG P w K mg base ⟨K, cl⟩ "_law_draw" 1 2 m__law_draw) (F__law_weight : FnG P w K mg base ⟨K, cl⟩ "_law_weight" 24 1 (m__law_weight 24)) (F__law_course : FnG P w K mg base ⟨K, cl⟩ "_law_course" k 3 r__law_course) : FnOk P w K mg base (L2.CX P w) (k + 1) f fd ["_law_left", "_law_shape_here", "_law_at"] (FSp ⟨K, cl⟩ 3 (B__law_course r__law_course)) :=
  fnPM F sc__law_course rfl fun cdv A outer s H E hr tk hp => mss_cons (ms_if (mt_cmp (op_eqP hr.units) (dEq_ok rfl) (me_ix rfl (me_var 1) (me_int)) (me_str [111, 110, 101])) (mss_one (ms_ret (me_lst (ma_cons (me_add rfl (me_var 2) (me_int)) (ma_nil))))) (mss_nil))
    (mss_cons (ms_set 3 sc__law_course.nd (me_callG F__law_laid hr (Nat.le_trans (by decide) hk) tk (ma_cons (me_var 1) (ma_nil))))
    (mss_cons (ms_if (mt_cmp (op_eqP hr.units) (dEq_ok rfl) (me_ix rfl (me_var 1) (me_int)) (me_str [109, 97, 110, 121])) (mss_one (ms_set 3 sc__law_course.nd (me_mulZ rfl (me_tup (ma_cons (me_ix rfl (me_var 1) (me_int)) (ma_nil))) (me_callG F__law_draw hr (Nat.le_trans (by decide) hk) tk (ma_cons (me_var 0) (ma_cons (me_int) (ma_nil))))))) (mss_nil))
    (mss_cons (ms_if (mt_cmp (op_eqP hr.units) (dEq_ok rfl) (me_ix rfl (me_var 1) (me_int)) (me_str [116, 105, 109, 101, 115])) (mss_one (ms_set 3 sc__law_course.nd (me_mulZ rfl (me_tup (ma_cons (me_ix rfl (me_var 1) (me_int)) (ma_nil))) (me_fz (me_add rfl (me_ix rfl (me_var 1) (me_int)) (me_callG F__law_draw hr (Nat.le_trans (by decide) hk) tk (ma_cons (me_var 0) (ma_cons (me_add rfl (me_sub (me_ix rfl (me_var 1) (me_int)) (me_ix rfl (me_var 1) (me_int))) (me_int)) (ma_nil))))))))) (mss_nil))
    (mss_cons (ms_set 4 sc__law_course.nd (me_ifExp (mt_cmp (op_eqP hr.units) (dEq_ok rfl) (me_ix rfl (me_var 1) (me_int)) (me_str [101, 105, 116, 104, 101, 114])) (me_callG F__law_draw hr (Nat.le_trans (by decide) hk) tk (ma_cons (me_var 0) (ma_cons (me_callB call_lenA bLen_ok z_len (by decide +kernel) (ma_cons (me_var 3) (ma_nil))) (ma_nil)))) (me_neg (me_int))))
    (mss_cons (ms_set 5 sc__law_course.nd (me_lst (ma_nil)))
    (mss_cons (ms_for rfl hp (mi_enum rfl (ma_cons (me_var 3) (ma_nil)) z_enumerate) (mg_tup rfl rfl (.cons (pg_name (i := 6) sc__law_course.nd rfl (by first | exact Or.inl rfl | exact Or.inr rfl)) (.cons (pg_name (i := 7) sc__law_course.nd rfl (by first | exact Or.inl rfl | exact Or.inr rfl)) (.nil) rfl) rfl)) (mss_cons (ms_if (mt_w (mw_and (mt_cmp op_gt opS_C (me_callG F__law_weight hr (Nat.le_trans (by decide) hk) tk (ma_cons (me_var 7) (ma_nil))) (me_int)) (mw_and1 (mt_w (mw_or (mt_cmp op_lt opS_C (me_var 4) (me_int)) (mw_or1 (mt_cmp (op_eqP hr.units) (dEq_ok rfl) (me_var 4) (me_var 6)))))))) (mss_one (ms_aug 5 sc__law_course.nd iop_ext dIAddL_ok (me_callG F__law_course hr (Nat.le_refl _) tk (ma_cons (me_var 0) (ma_cons (me_var 7) (ma_cons (me_var 2) (ma_nil))))))) (mss_nil))
    (mss_one (ms_if (mt_cmp (op_neP hr.units) (dNe_ok rfl) (me_ix rfl (me_var 1) (me_int)) (me_str [109, 97, 110, 121])) (mss_one (ms_aug 2 sc__law_course.nd iop_addA iadd_ok (me_callG F__law_weight hr (Nat.le_trans (by decide) hk) tk (ma_cons (me_var 7) (ma_nil))))) (mss_nil)))))
    (mss_one (ms_ret (me_var 5)))))))))
noncomputable def scc__law_course : Nat → MF
  | 0 => (mNo)
  | n + 1 => (B__law_course (scc__law_course n))
noncomputable def m__law_course (n : Nat) : MF := (scc__law_course n)
theorem m__law_course_succ (n : Nat) : m__law_course (n + 1) = B__law_course (m__law_course n) := rfl
theorem ok_scc__law_course {P : Program} {w : World} {K : PySem.W.Frag} {mg : Str → Option Value} {base : Heap} {cl : Str → Addr} (d__law_course : DefAt K mg "_law_course" (topS 28) ["_law_left", "_law_shape_here", "_law_at"]) (z_len : mg "len" = none) (z_enumerate : mg "enumerate" = none) (F__law_laid : FnG P w K mg base ⟨K, cl⟩ "_law_laid" 1 1 m__law_laid) (F__law_draw : FnG P w K mg base ⟨K, cl⟩ "_law_draw" 1 2 m__law_draw) (F__law_weight : FnG P w K mg base ⟨K, cl⟩ "_law_weight" 24 1 (m__law_weight 24)) (n : Nat) : FnG P w K mg base ⟨K, cl⟩ "_law_course" (24 + n) 3 (m__law_course n) := by
  induction n with
  | zero => exact fnG_no d__law_course rfl
  | succ n ih => exact d__law_course.fn fun f fd F => okf__law_course (Nat.le_add_right _ _) F z_len z_enumerate F__law_laid F__law_draw F__law_weight ih
/-! law -/
noncomputable def e_law_1 : ME := mOp dAdd (mC (.int 1)) (mCall 2 (m__law_draw) (mCons (mVar 1) (mCons (mVar 3) (mNil))))
noncomputable def b_law_2 : MS := msCons (msSet 7 (mFz (mSlice (mFz (mCall 3 ((m__law_course 24)) (mCons (mVar 1) (mCons (mVar 2) (mCons (mC (.int 0)) (mNil)))))) (moNone) (moSome (mC (.int 10))))))
    (msCons (msAug 5 dIAddL (mLst (mCons (mVar 7) (mCons (mCall 2 (m__law_gone) (mCons (mVar 1) (mCons (mVar 4) (mNil)))) (mNil)))))
    (msIf (mTb (mOp dGt (mVar 3) (mC (.int 0)))) (msAug 5 dIAddL (mLst (mCons (mCall 3 (m__law_bent) (mCons (mVar 1) (mCons (mVar 7) (mCons (mVar 3) (mNil))))) (mCons (mFz (mLc (iRange1 (mCons (mOp dAdd (mVar 6) (mC (.int 2))) (mNil))) (gSet 9) mYes e_law_1 [9])) (mNil))))) (msNil)))
noncomputable def b_law_3 : MS := msIf (mTb (mOp (dEq true) (mCall 2 (m__law_along) (mCons (mVar 4) (mCons (mVar 8) (mNil)))) (mOp (dIn false) (mB bLen (mCons (mVar 8) (mNil))) (mFz (mCall 4 ((m__law_comes 24)) (mCons (mVar 2) (mCons (mC (.int 0)) (mCons (mVar 8) (mCons (mC (.int 0)) (mNil)))))))))) (msRet (mC (.bl false))) (msNil)
noncomputable def m_law : MF := fnM 10 (msCons (msSet 1 (mCall 1 (m__law_source) (mCons (mVar 0) (mNil))))
    (msCons (msSet 2 (mCall 5 ((m__law_shape 24)) (mCons (mVar 1) (mCons (mCall 1 (m__law_tongue) (mCons (mVar 1) (mNil))) (mCons (mC (.int 5)) (mCons (mC (.int 10)) (mCons (mLst (mCons (mC (.int 24)) (mNil))) (mNil))))))))
    (msCons (msSet 3 (mCall 1 ((m__law_weight 24)) (mCons (mVar 2) (mNil))))
    (msCons (msSet 4 (mCall 1 (m_spread) (mCons (mVar 2) (mNil))))
    (msCons (msIf (mOr (mTb (mOp (dEq true) (mB bLen (mCons (mOp dIx (mVar 4) (mC (.int 1))) (mNil))) (mOp dAdd (mC (.int 1)) (mVar 3)))) (mTb (mOp (dEq true) (mB bLen (mCons (mOp dIx (mVar 4) (mC (.int 0))) (mNil))) (mOp dAdd (mC (.int 1)) (mVar 3))))) (msRet (mC (.bl false))) (msNil))
    (msCons (msSet 5 (mLst (mCons (mFz (mLst (mNil))) (mNil))))
    (msCons (msFor (iRange1 (mCons (mC (.int 2)) (mNil))) (gSet 6) b_law_2)
    (msCons (msFz 5 (msFor (iSeq (mVar 5)) (gSet 8) b_law_3))
    (msRet (mC (.bl true)))))))))))
theorem sc_law : FnScope ["_law_script", "_law_left", "_law_shape_here", "_law_many", "_law_told", "_law_rows", "_law_k", "_law_course_here", "_law_row", "_law_place"] ["_law_script"] (defScope (topS 32)) := ⟨rfl, rfl, rfl, by decide +kernel, rfl, by decide +kernel, by decide +kernel⟩
theorem okf_law {P : Program} {w : World} {K : PySem.W.Frag} {mg : Str → Option Value} {base : Heap} {cl : Str → Addr} {f : Addr} {fd : FuncData} (F : Fun K "law" "law" (topS 32) f fd) (z_len : mg "len" = none) (z_range : mg "range" = none) (F__law_source : FnG P w K mg base ⟨K, cl⟩ "_law_source" 1 1 m__law_source) (F__law_shape : FnG P w K mg base ⟨K, cl⟩ "_law_shape" 48 5 (m__law_shape 24)) (F__law_tongue : FnG P w K mg base ⟨K, cl⟩ "_law_tongue" 2 1 m__law_tongue) (F__law_weight : FnG P w K mg base ⟨K, cl⟩ "_law_weight" 24 1 (m__law_weight 24)) (F_spread : FnG P w K mg base ⟨K, cl⟩ "spread" 27 1 m_spread) (F__law_course : FnG P w K mg base ⟨K, cl⟩ "_law_course" 48 3 (m__law_course 24)) (F__law_gone : FnG P w K mg base ⟨K, cl⟩ "_law_gone" 2 2 m__law_gone) (F__law_bent : FnG P w K mg base ⟨K, cl⟩ "_law_bent" 2 3 m__law_bent) (F__law_draw : FnG P w K mg base ⟨K, cl⟩ "_law_draw" 1 2 m__law_draw) (F__law_along : FnG P w K mg base ⟨K, cl⟩ "_law_along" 1 2 m__law_along) (F__law_comes : FnG P w K mg base ⟨K, cl⟩ "_law_comes" 48 4 (m__law_comes 24)) : FnOk P w K mg base (L2.CX P w) 49 f fd ["_law_script"] (FSp ⟨K, cl⟩ 1 m_law) :=
  fnPM F sc_law rfl fun cdv A outer s H E hr tk hp => mss_cons (ms_set 1 sc_law.nd (me_callG F__law_source hr (by decide) tk (ma_cons (me_var 0) (ma_nil))))
    (mss_cons (ms_set 2 sc_law.nd (me_callG F__law_shape hr (by decide) tk (ma_cons (me_var 1) (ma_cons (me_callG F__law_tongue hr (by decide) tk (ma_cons (me_var 1) (ma_nil))) (ma_cons (me_int) (ma_cons (me_int) (ma_cons (me_lst (ma_cons (me_int) (ma_nil))) (ma_nil))))))))
    (mss_cons (ms_set 3 sc_law.nd (me_callG F__law_weight hr (by decide) tk (ma_cons (me_var 2) (ma_nil))))
    (mss_cons (ms_set 4 sc_law.nd (me_callG F_spread hr (by decide) tk (ma_cons (me_var 2) (ma_nil))))
    (mss_cons (ms_if (mt_w (mw_or (mt_cmp (op_neP hr.units) (dNe_ok rfl) (me_callB call_lenA bLen_ok z_len (by decide +kernel) (ma_cons (me_ix rfl (me_var 4) (me_int)) (ma_nil))) (me_add rfl (me_int) (me_var 3))) (mw_or1 (mt_cmp (op_neP hr.units) (dNe_ok rfl) (me_callB call_lenA bLen_ok z_len (by decide +kernel) (ma_cons (me_ix rfl (me_var 4) (me_int)) (ma_nil))) (me_add rfl (me_int) (me_var 3)))))) (mss_one (ms_ret (me_bl))) (mss_nil))
    (mss_cons (ms_set 5 sc_law.nd (me_lst (ma_cons (me_fz (me_lst (ma_nil))) (ma_nil))))
    (mss_cons (ms_for rfl hp (mi_range1 (ma_cons (me_int) (ma_nil)) z_range) (mg_name 6 sc_law.nd) (mss_cons (ms_set 7 sc_law.nd (me_fz (me_slice rfl (me_fz (me_callG F__law_course hr (by decide) tk (ma_cons (me_var 1) (ma_cons (me_var 2) (ma_cons (me_int) (ma_nil)))))) (moN) (moS (me_int)))))
    (mss_cons (ms_aug 5 sc_law.nd iop_ext dIAddL_ok (me_lst (ma_cons (me_var 7) (ma_cons (me_callG F__law_gone hr (by decide) tk (ma_cons (me_var 1) (ma_cons (me_var 4) (ma_nil)))) (ma_nil)))))
    (mss_one (ms_if (mt_cmp op_gt opS_C (me_var 3) (me_int)) (mss_one (ms_aug 5 sc_law.nd iop_ext dIAddL_ok (me_lst (ma_cons (me_callG F__law_bent hr (by decide) tk (ma_cons (me_var 1) (ma_cons (me_var 7) (ma_cons (me_var 3) (ma_nil))))) (ma_cons (me_fz (me_lc (own := [("_law_place", 9)]) rfl sc_law.nd (mi_range1 (ma_cons (me_add rfl (me_var 6) (me_int)) (ma_nil)) z_range) (blkOk_by (N := ["_law_script", "_law_left", "_law_shape_here", "_law_many", "_law_told", "_law_rows", "_law_k", "_law_course_here", "_law_row", "_law_place"]) (sc := defScope (topS 32)) (by decide +kernel)) (fun _ _ _ _ _ => mg_name 9 sc_law.nd) (fun _ _ _ _ _ => mts_nil) (fun _ _ _ _ _ => me_add rfl (me_int) (me_callG F__law_draw hr (by decide) takes0 (ma_cons (me_var 1) (ma_cons (me_var 3) (ma_nil))))))) (ma_nil)))))) (mss_nil))))))
    (mss_cons (ms_fz 5 (ms_for rfl hp (mi_seq rfl (me_var 5)) (mg_name 8 sc_law.nd) (mss_one (ms_if (mt_cmp (op_neP hr.units) (dNe_ok rfl) (me_callG F__law_along hr (by decide) tk (ma_cons (me_var 4) (ma_cons (me_var 8) (ma_nil)))) (me_cmp (op_inA hr.units) (dIn_ok rfl false) (me_callB call_lenA bLen_ok z_len (by decide +kernel) (ma_cons (me_var 8) (ma_nil))) (me_fz (me_callG F__law_comes hr (by decide) tk (ma_cons (me_var 2) (ma_cons (me_int) (ma_cons (me_var 8) (ma_cons (me_int) (ma_nil))))))))) (mss_one (ms_ret (me_bl))) (mss_nil)))))
    (mss_one (ms_ret (me_bl))))))))))
/-! the end -/
theorem all_ok {P : Program} {w : World} {K : PySem.W.Frag} {mg : Str → Option Value} {base : Heap} (cl : Str → Addr) (z_abs : mg "abs" = none) (z_enumerate : mg "enumerate" = none) (z_int : mg "int" = none) (z_len : mg "len" = none) (z_max : mg "max" = none) (z_range : mg "range" = none) (z_set : mg "set" = none) (z_sorted : mg "sorted" = none) (z_sum : mg "sum" = none) (z_tuple : mg "tuple" = none) (g_MOST_WEIGHT : GlC mg "MOST_WEIGHT" c_MOST_WEIGHT) (x_TooHeavy : ExC1 K mg "TooHeavy" (cl "TooHeavy")) (q_Plan : Cls K (cl "Plan")) (n_Plan_marks : NoAttr K (cl "Plan") "marks") (n_Plan_nexts : NoAttr K (cl "Plan") "nexts") (d_inner : DefAt K mg "inner" (topS 4) ["shape"]) (d_Plan___init__ : InitAt K mg (cl "Plan") "Plan" "Plan.__init__" (inClass (topS 8) 0) ["self"]) (d_Plan_lay : MthAt K (cl "Plan") "Plan.lay" "lay" (inClass (topS 8) 1) ["self", "signs"]) (d_Plan_link : MthAt K (cl "Plan") "Plan.link" "link" (inClass (topS 8) 2) ["self", "places", "others"]) (d__law_source : DefAt K mg "_law_source" (topS 17) ["_law_script"]) (d__law_draw : DefAt K mg "_law_draw" (topS 18) ["_law_left", "_law_many"]) (d__law_signs : DefAt K mg "_law_signs" (topS 19) []) (d__law_laid : DefAt K mg "_law_laid" (topS 24) ["_law_shape_here"]) (d__law_along : DefAt K mg "_law_along" (topS 31) ["_law_told", "_law_row"]) (d_in_turn : DefAt K mg "in_turn" (topS 9) ["plan", "ends", "more"]) (d__law_tongue : DefAt K mg "_law_tongue" (topS 20) ["_law_left"]) (d__law_ones : DefAt K mg "_law_ones" (topS 21) ["_law_left", "_law_tongue_here"]) (d__law_gone : DefAt K mg "_law_gone" (topS 29) ["_law_left", "_law_told"]) (d__law_bent : DefAt K mg "_law_bent" (topS 30) ["_law_left", "_law_row", "_law_many"]) (d__law_weight : DefAt K mg "_law_weight" (topS 22) ["_law_shape_here"]) (d_weight : DefAt K mg "weight" (topS 5) ["shape"]) (d_laid_row : DefAt K mg "laid_row" (topS 10) ["plan", "parts"]) (d_laid_either : DefAt K mg "laid_either" (topS 11) ["plan", "parts"]) (d_laid_many : DefAt K mg "laid_many" (topS 12) ["plan", "part"]) (d_laid_times : DefAt K mg "laid_times" (topS 13) ["plan", "part", "low", "high"]) (d_laid : DefAt K mg "laid" (topS 14) ["plan", "shape"]) (d_spread : DefAt K mg "spread" (topS 15) ["shape"]) (d__law_shape : DefAt K mg "_law_shape" (topS 23) ["_law_left", "_law_tongue_here", "_law_deep", "_law_purse", "_law_room"]) (d__law_comes : DefAt K mg "_law_comes" (topS 25) ["_law_shape_here", "_law_at", "_law_row", "_law_k"]) (d__law_comes_behind : DefAt K mg "_law_comes_behind" (topS 26) ["_law_part", "_law_at", "_law_row", "_law_here"]) (d__law_comes_often : DefAt K mg "_law_comes_often" (topS 27) ["_law_part", "_law_at", "_law_row", "_law_k"]) (d__law_course : DefAt K mg "_law_course" (topS 28) ["_law_left", "_law_shape_here", "_law_at"]) {f : Addr} {fd : FuncData} (F : Fun K "law" "law" (topS 32) f fd) : FnOk P w K mg base (L2.CX P w) 49 f fd ["_law_script"] (FSp ⟨K, cl⟩ 1 m_law) := by
  have F_inner : FnG P w K mg base ⟨K, cl⟩ "inner" 1 1 m_inner := ok_inner d_inner
  have F_Plan___init__ : Mkd P w K mg base ⟨K, cl⟩ "Plan" 1 1 m_Plan___init__ := ok_Plan___init__ d_Plan___init__ q_Plan n_Plan_marks n_Plan_nexts
  have F_Plan_lay : Mtd P w K mg base ⟨K, cl⟩ "Plan" "lay" 1 2 m_Plan_lay := ok_Plan_lay d_Plan_lay z_len q_Plan n_Plan_marks n_Plan_nexts
  have F_Plan_link : Mtd P w K mg base ⟨K, cl⟩ "Plan" "link" 1 3 m_Plan_link := ok_Plan_link d_Plan_link q_Plan n_Plan_nexts
  have F__law_source : FnG P w K mg base ⟨K, cl⟩ "_law_source" 1 1 m__law_source := ok__law_source d__law_source z_abs z_int z_sum
  have F__law_draw : FnG P w K mg base ⟨K, cl⟩ "_law_draw" 1 2 m__law_draw := ok__law_draw d__law_draw z_len
  have F__law_signs : FnG P w K mg base ⟨K, cl⟩ "_law_signs" 1 0 m__law_signs := ok__law_signs d__law_signs
  have F__law_laid : FnG P w K mg base ⟨K, cl⟩ "_law_laid" 1 1 m__law_laid := ok__law_laid d__law_laid
  have F__law_along : FnG P w K mg base ⟨K, cl⟩ "_law_along" 1 2 m__law_along := ok__law_along d__law_along
  have F_in_turn : FnG P w K mg base ⟨K, cl⟩ "in_turn" 2 3 m_in_turn := ok_in_turn d_in_turn F_Plan_link
  have F__law_tongue : FnG P w K mg base ⟨K, cl⟩ "_law_tongue" 2 1 m__law_tongue := ok__law_tongue d__law_tongue z_range z_len F__law_signs F__law_draw
  have F__law_ones : FnG P w K mg base ⟨K, cl⟩ "_law_ones" 2 2 m__law_ones := ok__law_ones d__law_ones z_len z_range F__law_draw
  have F__law_gone : FnG P w K mg base ⟨K, cl⟩ "_law_gone" 2 2 m__law_gone := ok__law_gone d__law_gone z_len F__law_draw
  have F__law_bent : FnG P w K mg base ⟨K, cl⟩ "_law_bent" 2 3 m__law_bent := ok__law_bent d__law_bent z_len z_max F__law_draw
  have F__law_weight : FnG P w K mg base ⟨K, cl⟩ "_law_weight" 24 1 (m__law_weight 24) := (ok_scc__law_weight d__law_weight z_sum 24)
  have F_weight : FnG P w K mg base ⟨K, cl⟩ "weight" 25 1 (m_weight 24) := (ok_scc_weight d_weight z_sum F_inner 24)
  have F_laid_row : FnG P w K mg base ⟨K, cl⟩ "laid_row" 26 2 (m_laid_row 24) := (ok_scc_laid_row d_laid_row d_laid_either d_laid_many d_laid_times d_laid F_in_turn F_Plan_link z_range F_Plan_lay 24).1
  have F_laid_either : FnG P w K mg base ⟨K, cl⟩ "laid_either" 26 2 (m_laid_either 24) := (ok_scc_laid_row d_laid_row d_laid_either d_laid_many d_laid_times d_laid F_in_turn F_Plan_link z_range F_Plan_lay 24).2.1
  have F_laid_many : FnG P w K mg base ⟨K, cl⟩ "laid_many" 26 2 (m_laid_many 24) := (ok_scc_laid_row d_laid_row d_laid_either d_laid_many d_laid_times d_laid F_in_turn F_Plan_link z_range F_Plan_lay 24).2.2.1
  have F_laid_times : FnG P w K mg base ⟨K, cl⟩ "laid_times" 26 4 (m_laid_times 24) := (ok_scc_laid_row d_laid_row d_laid_either d_laid_many d_laid_times d_laid F_in_turn F_Plan_link z_range F_Plan_lay 24).2.2.2.1
  have F_laid : FnG P w K mg base ⟨K, cl⟩ "laid" 26 2 (m_laid 24) := (ok_scc_laid_row d_laid_row d_laid_either d_laid_many d_laid_times d_laid F_in_turn F_Plan_link z_range F_Plan_lay 24).2.2.2.2
  have F_spread : FnG P w K mg base ⟨K, cl⟩ "spread" 27 1 m_spread := ok_spread d_spread z_sorted z_tuple z_set g_MOST_WEIGHT x_TooHeavy q_Plan n_Plan_marks n_Plan_nexts F_weight F_Plan___init__ F_laid F_Plan_link
  have F__law_shape : FnG P w K mg base ⟨K, cl⟩ "_law_shape" 48 5 (m__law_shape 24) := (ok_scc__law_shape d__law_shape z_max z_range z_tuple F__law_draw F__law_ones F__law_weight 24)
  have F__law_comes : FnG P w K mg base ⟨K, cl⟩ "_law_comes" 48 4 (m__law_comes 24) := (ok_scc__law_comes d__law_comes d__law_comes_behind d__law_comes_often z_len z_enumerate z_sorted z_set F__law_weight F__law_laid 24).1
  have F__law_comes_behind : FnG P w K mg base ⟨K, cl⟩ "_law_comes_behind" 48 4 (m__law_comes_behind 24) := (ok_scc__law_comes d__law_comes d__law_comes_behind d__law_comes_often z_len z_enumerate z_sorted z_set F__law_weight F__law_laid 24).2.1
  have F__law_comes_often : FnG P w K mg base ⟨K, cl⟩ "_law_comes_often" 48 4 (m__law_comes_often 24) := (ok_scc__law_comes d__law_comes d__law_comes_behind d__law_comes_often z_len z_enumerate z_sorted z_set F__law_weight F__law_laid 24).2.2
  have F__law_course : FnG P w K mg base ⟨K, cl⟩ "_law_course" 48 3 (m__law_course 24) := (ok_scc__law_course d__law_course z_len z_enumerate F__law_laid F__law_draw F__law_weight 24)
  exact okf_law F z_len z_range F__law_source F__law_shape F__law_tongue F__law_weight F_spread F__law_course F__law_gone F__law_bent F__law_draw F__law_along F__law_comes
end NR

set_option Elab.async false
set_option linter.all false
set_option maxRecDepth 100000
set_option maxHeartbeats 4000000
namespace NR
open PySem PySem.Spec PyProof.Rows L2
/-! ### a plan in the heap -/
/-- the cells of the plan's own -/
def Own (a b : Nat) (rs : List Nat) (i : Nat) : Prop := i = a ∨ i = b ∨ i ∈ rs
def plF (a b : Nat) : List (Str × D) := [("marks", .ref a), ("nexts", .ref b)]
structure Pl (H : IH) (p a b : Nat) (mk : List (List Nat)) (rs : List Nat) (rows : List (List Nat)) : Prop where
  pa : H[p]? = some (.ins "Plan" (plF a b))
  ma : H[a]? = some (.lst (mk.map D.str))
  na : H[b]? = some (.lst (rs.map D.ref))
  len : rs.length = rows.length
  ml : mk.length = rows.length
  row : ∀ (i r : Nat) (w : List Nat), rs[i]? = some r → rows[i]? = some w → H[r]? = some (.lst (w.map nD))
  nd : rs.Nodup
  ab : a ≠ b
  ar : a ∉ rs
  br : b ∉ rs
/-- the rest stays -/
def FrP (H H' : IH) (a b : Nat) (rs : List Nat) : Prop := H.length ≤ H'.length ∧ ∀ i c, H[i]? = some c → ¬ Own a b rs i → H'[i]? = some c
/-- a list of numbers that is no cell of the plan's -/
def LsP (H : IH) (a b : Nat) (rs : List Nat) (d : D) (xs : List Nat) : Prop := d = .fl (xs.map nD) ∨ ∃ n, d = .ref n ∧ H[n]? = some (.lst (xs.map nD)) ∧ ¬ Own a b rs n
section
variable {H H' : IH} {p a b : Nat} {mk : List (List Nat)} {rs : List Nat} {rows : List (List Nat)} {d : D} {xs : List Nat}
theorem FrP.refl : FrP H H a b rs := ⟨Nat.le_refl _, fun _ _ h _ => h⟩
/-- the rows that are new -/
def Ext2 (H : IH) (rs rs' : List Nat) : Prop := ∃ new, rs' = rs ++ new ∧ ∀ r ∈ new, H.length ≤ r
theorem LsP.keep {rs' : List Nat} (l : LsP H a b rs d xs) (f : FrP H H' a b rs) (e : Ext2 H rs rs') : LsP H' a b rs' d xs := by
  rcases l with h | ⟨n, e1, h, no⟩
  · exact .inl h
  · refine .inr ⟨n, e1, f.2 n _ h no, ?_⟩
    obtain ⟨new, rfl, hn⟩ := e
    have nl := (List.getElem?_eq_some_iff.mp h).1
    rintro (z | z | z)
    · exact no (.inl z)
    · exact no (.inr (.inl z))
    · rcases List.mem_append.mp z with z | z
      · exact no (.inr (.inr z))
      · have := hn n z
        omega
theorem FrP.trans {H'' : IH} {rs' : List Nat} (f : FrP H H' a b rs) (g : FrP H' H'' a b rs') (e : Ext2 H rs rs') : FrP H H'' a b rs := by
  refine ⟨Nat.le_trans f.1 g.1, fun i c h no => g.2 i c (f.2 i c h no) ?_⟩
  obtain ⟨new, rfl, hn⟩ := e
  have nl := (List.getElem?_eq_some_iff.mp h).1
  rintro (z | z | z)
  · exact no (.inl z)
  · exact no (.inr (.inl z))
  · rcases List.mem_append.mp z with z | z
    · exact no (.inr (.inr z))
    · have := hn i z
      omega
theorem Ext2.refl : Ext2 H rs rs := ⟨[], by simp, by simp⟩
theorem Ext2.trans {rs' rs'' : List Nat} (l : H.length ≤ H'.length) (e : Ext2 H rs rs') (f : Ext2 H' rs' rs'') : Ext2 H rs rs'' := by
  obtain ⟨n1, rfl, h1⟩ := e
  obtain ⟨n2, rfl, h2⟩ := f
  refine ⟨n1 ++ n2, by simp, fun r hr => ?_⟩
  rcases List.mem_append.mp hr with hr | hr
  · exact h1 r hr
  · have := h2 r hr
    omega
/-- a walk over a list, whatever is done to the rest -/
theorem for_srcI {it : MI} {gg : MG} {bd : MS} {env : EV} {src : Src} {ds : List D} (I : Nat → EV → IH → Prop) (e : it env H = .ok src H) (sr : ∀ i env h, I i env h → src.ok h = true ∧ ∀ j, src.get h j = ds[j]?) (mn : src.many H = ds.length) (i0 : I 0 env H)
    (step : ∀ i d env h, ds[i]? = some d → I i env h → ∃ e1 e2 h2, gg d env = some e1 ∧ bd e1 h = .nx e2 h2 ∧ I (i + 1) e2 h2) : ∃ e2 h2, msFor it gg bd env H = .nx e2 h2 ∧ I ds.length e2 h2 := by
  have go : ∀ (m i : Nat) (env : EV) (h : IH), I i env h → ds.length < m + i → i ≤ ds.length → ∃ e2 h2, forM src gg bd m i env h = .nx e2 h2 ∧ I ds.length e2 h2 := by
    intro m
    induction m with
    | zero => intro i env h q l l2; omega
    | succ m ih =>
      intro i env h q l l2
      obtain ⟨o, ge⟩ := sr i env h q
      unfold forM
      rw [if_pos o, ge i]
      cases hd : ds[i]? with
      | none =>
        have : ds.length ≤ i := List.getElem?_eq_none_iff.mp hd
        have : i = ds.length := by omega
        subst this
        exact ⟨env, h, rfl, q⟩
      | some d =>
        obtain ⟨e1, e2, h2, g1, g2, q2⟩ := step i d env h hd q
        dsimp only
        rw [g1]
        dsimp only
        rw [g2]
        exact ih (i + 1) e2 h2 q2 (by omega) (List.getElem?_eq_some_iff.mp hd).1
  rw [ap_msFor, e, bindS_ok, mn]
  exact go _ 0 env H i0 (by omega) (Nat.zero_le _)
theorem LsP.src (l : LsP H a b rs d xs) : ∃ src : Src, (∀ (me : ME) (env : EV), me env H = .ok d H → iSeq me env H = .ok src H) ∧ src.many H = (xs.map nD).length ∧ ∀ h rs', LsP h a b rs' d xs → src.ok h = true ∧ ∀ j, src.get h j = (xs.map nD)[j]? := by
  rcases l with rfl | ⟨n, rfl, h, no⟩
  · exact ⟨.st (xs.map nD), fun me env e => by rw [ap_iSeq, e]; rfl, rfl, fun h rs' _ => ⟨rfl, fun j => rfl⟩⟩
  · refine ⟨.ls n, fun me env e => iSeq_ls e h, (src_ls h).2.2, fun h' rs' l' => ?_⟩
    rcases l' with z | ⟨m, z, h2, _⟩
    · cases z
    · cases z
      exact ⟨(src_ls h2).1, (src_ls h2).2.1⟩
end
end NR

set_option Elab.async false
set_option linter.all false
set_option maxRecDepth 100000
set_option maxHeartbeats 4000000
namespace NR
open PySem PySem.Spec PyProof.Rows L2
section
variable {H H' : IH} {p a b : Nat} {mk : List (List Nat)} {rs : List Nat} {rows : List (List Nat)} {d : D} {xs : List Nat}
theorem nd_len : ∀ (N : Nat) (l : List Nat), l.Nodup → (∀ x ∈ l, x < N) → l.length ≤ N
  | 0, [], _, _ => by simp
  | 0, x :: l, _, h => absurd (h x List.mem_cons_self) (Nat.not_lt_zero x)
  | N + 1, l, nd, h => by
    have h1 := nd_len N (l.erase N) (nd.erase N) fun x hx => by
      have hx' := List.mem_of_mem_erase hx
      have : x ≠ N := fun z => by
        subst z
        exact absurd hx (by
          rw [nd.mem_erase_iff]
          simp)
      have := h x hx'
      omega
    by_cases hN : N ∈ l
    · rw [List.length_erase_of_mem hN] at h1
      omega
    · rw [List.erase_of_not_mem hN] at h1
      omega
theorem Pl.pn (P : Pl H p a b mk rs rows) {i : Nat} {ds : List D} (h : H[i]? = some (.lst ds)) : p ≠ i := fun z => by
  subst z
  rw [P.pa] at h
  cases h
theorem Pl.at_row (P : Pl H p a b mk rs rows) {i : Nat} {w : List Nat} (hw : rows[i]? = some w) : ∃ r, rs[i]? = some r ∧ H[r]? = some (.lst (w.map nD)) := by
  have hi := (List.getElem?_eq_some_iff.mp hw).1
  have : i < rs.length := by rw [P.len]; exact hi
  exact ⟨rs[i], List.getElem?_eq_getElem this, P.row i _ w (List.getElem?_eq_getElem this) hw⟩
theorem Pl.set_row (P : Pl H p a b mk rs rows) {i r : Nat} {w w' : List Nat} (hr : rs[i]? = some r) (hw : rows[i]? = some w) : Pl (H.set r (.lst (w'.map nD))) p a b mk rs (rows.set i w') := by
  have hrow := P.row i r w hr hw
  have hl := (List.getElem?_eq_some_iff.mp hrow).1
  have rm : r ∈ rs := List.mem_of_getElem? hr
  have hi := (List.getElem?_eq_some_iff.mp hw).1
  have ra : r ≠ a := fun z => by subst z; exact P.ar rm
  have rb : r ≠ b := fun z => by subst z; exact P.br rm
  refine ⟨by rw [List.getElem?_set_ne (Ne.symm (P.pn hrow))]; exact P.pa, by rw [List.getElem?_set_ne ra]; exact P.ma, by rw [List.getElem?_set_ne rb]; exact P.na, by rw [List.length_set]; exact P.len, by rw [List.length_set]; exact P.ml, fun j r' v hj hv => ?_, P.nd, P.ab, P.ar, P.br⟩
  by_cases e : j = i
  · subst e
    rw [hr] at hj
    cases hj
    rw [List.getElem?_set_self hi] at hv
    cases hv
    exact List.getElem?_set_self hl
  · rw [List.getElem?_set_ne (Ne.symm e)] at hv
    have : r ≠ r' := fun z => by
      subst z
      have i1 := (List.getElem?_eq_some_iff.mp hr).1
      exact e ((List.getElem?_inj i1 P.nd).mp (hr.trans hj.symm)).symm
    rw [List.getElem?_set_ne this]
    exact P.row j r' v hj hv
theorem FrP.row {r : Nat} {c : Cell} (f : FrP H H' a b rs) (hr : r ∈ rs) : FrP H (H'.set r c) a b rs := ⟨by rw [List.length_set]; exact f.1, fun i x h no => by
  have : r ≠ i := fun z => by subst z; exact no (.inr (.inr hr))
  rw [List.getElem?_set_ne this]
  exact f.2 i x h no⟩
/-- what linking does to the rows -/
def LinkR (rows : List (List Nat)) (pl os : List Nat) (rows' : List (List Nat)) : Prop := rows'.length = rows.length ∧ ∀ (i : Nat) (w' : List Nat), rows'[i]? = some w' → ∃ w, rows[i]? = some w ∧ (∀ q, q ∈ w' ↔ q ∈ w ∨ (i ∈ pl ∧ q ∈ os)) ∧ (i ∉ pl → w' = w)
def RowsOk (rows : List (List Nat)) : Prop := ∀ w ∈ rows, w.Nodup ∧ ∀ q ∈ w, q < 1000
theorem link_turn (P : Pl H p a b mk rs rows) (ok : RowsOk rows) {i q : Nat} {w : List Nat} (hw : rows[i]? = some w) (hq : q < 1000) {dp do_ : Option D} :
    ∃ H' w', b_Plan_link_1 [some (.ref p), dp, do_, some (.int (i : Nat)), some (.int (q : Nat))] H = .nx [some (.ref p), dp, do_, some (.int (i : Nat)), some (.int (q : Nat))] H' ∧ Pl H' p a b mk rs (rows.set i w') ∧ RowsOk (rows.set i w') ∧ (∀ x, x ∈ w' ↔ x ∈ w ∨ x = q) ∧ H'.length = H.length ∧ (∀ K, FrP K H a b rs → FrP K H' a b rs) := by
  obtain ⟨r, hr, hrow⟩ := P.at_row hw
  have wm : w ∈ rows := List.mem_of_getElem? hw
  obtain ⟨wn, wb⟩ := ok w wm
  have wl := nd_len 1000 w wn wb
  have hi := (List.getElem?_eq_some_iff.mp hw).1
  have ins_ : insAt "Plan" H (.ref p) = some (plF a b) := insAt_ref P.pa
  have lk : List.lookup ("nexts" : Str) (plF a b) = some (.ref b) := rfl
  have ix : dIx (.ref b) (.int (i : Nat)) H = .ok (.ref r) H := dIx_ref (xs := rs.map D.ref) P.na (by omega) (by rw [Int.toNat_natCast, List.getElem?_map, hr]; rfl)
  have din : dIn true (.int (q : Nat)) (.ref r) H = .ok (.bl (!decide (q ∈ w))) H := by
    rw [dIn_nats (ns := w) (seqOf_ref hrow)]
    rfl
  have ty : tyD "list" H (.ref r) = true := tyD_ref hrow
  have ap : fAppend (.ref r) [.int (q : Nat)] H = .ok .non (H.set r (.lst ((w ++ [q]).map nD))) := by
    rw [append_at hrow (by rw [List.length_map]; omega), List.map_append]
    rfl
  generalize plF a b = FS at *
  by_cases m : q ∈ w
  · refine ⟨H, w, ?_, ?_, ?_, fun x => ⟨.inl, fun z => z.elim id fun z => z ▸ m⟩, rfl, fun K f => f⟩
    · unfold b_Plan_link_1
      simp [ins_, lk, ix, din, m]
    · rw [show rows.set i w = rows from by
        obtain ⟨h1, h2⟩ := List.getElem?_eq_some_iff.mp hw
        rw [← h2]
        exact List.set_getElem_self h1]
      exact P
    · rw [show rows.set i w = rows from by
        obtain ⟨h1, h2⟩ := List.getElem?_eq_some_iff.mp hw
        rw [← h2]
        exact List.set_getElem_self h1]
      exact ok
  · refine ⟨H.set r (.lst ((w ++ [q]).map nD)), w ++ [q], ?_, P.set_row hr hw, fun v hv => ?_, fun x => by simp, List.length_set, fun K f => f.row (List.mem_of_getElem? hr)⟩
    · unfold b_Plan_link_1
      simp [ins_, lk, ix, din, m, ty, ap]
    · rcases List.mem_or_eq_of_mem_set hv with hv | rfl
      · exact ok v hv
      · refine ⟨?_, fun x hx => ?_⟩
        · rw [List.nodup_append]
          refine ⟨wn, by simp, fun x hx y hy z => ?_⟩
          rw [List.mem_singleton] at hy
          subst hy
          exact m (z ▸ hx)
        · rcases List.mem_append.mp hx with hx | hx
          · exact wb x hx
          · rw [List.mem_singleton] at hx
            omega
end
end NR

set_option Elab.async false
set_option linter.all false
set_option maxRecDepth 100000
set_option maxHeartbeats 4000000
namespace NR
open PySem PySem.Spec PyProof.Rows L2
section
variable {H H' : IH} {p a b : Nat} {mk : List (List Nat)} {rs : List Nat} {rows : List (List Nat)} {dP dO : D} {pl os : List Nat}
theorem take_mem {k : Nat} {l : List Nat} {x q : Nat} (h : l[k]? = some x) : q ∈ l.take (k + 1) ↔ q ∈ l.take k ∨ q = x := by
  have hk := (List.getElem?_eq_some_iff.mp h).1
  rw [List.take_add_one, h]
  simp
theorem link_inner (P : Pl H p a b mk rs rows) (ok : RowsOk rows) (lo : LsP H a b rs dO os) (ob : ∀ q ∈ os, q < 1000) {i : Nat} {w : List Nat} (hw : rows[i]? = some w) {x4 : Option D} :
    ∃ H' w' x4', b_Plan_link_2 [some (.ref p), some dP, some dO, some (.int (i : Nat)), x4] H = .nx [some (.ref p), some dP, some dO, some (.int (i : Nat)), x4'] H' ∧ Pl H' p a b mk rs (rows.set i w') ∧ RowsOk (rows.set i w') ∧ (∀ x, x ∈ w' ↔ x ∈ w ∨ x ∈ os) ∧ H'.length = H.length ∧ (∀ K, FrP K H a b rs → FrP K H' a b rs) := by
  obtain ⟨src, e, mn, sr⟩ := lo.src
  have hi := (List.getElem?_eq_some_iff.mp hw).1
  have self : rows.set i w = rows := by
    obtain ⟨h1, h2⟩ := List.getElem?_eq_some_iff.mp hw
    rw [← h2]
    exact List.set_getElem_self h1
  obtain ⟨e2, h2, er, w', x4', rfl, P', ok', m', l', f'⟩ := for_srcI (it := iSeq (mVar 2)) (gg := gSet 4) (bd := b_Plan_link_1) (env := [some (.ref p), some dP, some dO, some (.int (i : Nat)), x4]) (src := src) (ds := os.map nD)
    (fun j env h => ∃ w' x4', env = [some (.ref p), some dP, some dO, some (.int (i : Nat)), x4'] ∧ Pl h p a b mk rs (rows.set i w') ∧ RowsOk (rows.set i w') ∧ (∀ x, x ∈ w' ↔ x ∈ w ∨ x ∈ os.take j) ∧ h.length = H.length ∧ (∀ K, FrP K H a b rs → FrP K h a b rs))
    (e _ _ rfl) (by
      rintro j env h ⟨w', x4', rfl, P', ok', m', l', f'⟩
      exact sr h rs (lo.keep (f' H FrP.refl) Ext2.refl)) mn ⟨w, x4, rfl, by rw [self]; exact P, by rw [self]; exact ok, fun x => by simp, rfl, fun K f => f⟩ (by
      rintro j d env h hd ⟨w', x4', rfl, P', ok', m', l', f'⟩
      rw [List.getElem?_map] at hd
      cases hq : os[j]? with
      | none => rw [hq] at hd; cases hd
      | some q =>
        rw [hq] at hd
        cases hd
        obtain ⟨h3, w3, e3, P3, ok3, m3, l3, f3⟩ := link_turn (i := i) (q := q) P' ok' (List.getElem?_set_self hi) (ob q (List.mem_of_getElem? hq)) (dp := some dP) (do_ := some dO)
        rw [List.set_set] at P3 ok3
        refine ⟨_, _, h3, rfl, e3, w3, some (.int (q : Nat)), rfl, P3, ok3, fun x => ?_, by rw [l3, l'], fun K f => f3 K (f' K f)⟩
        rw [m3, m', take_mem hq, or_assoc])
  rw [List.length_map, List.take_length] at m'
  exact ⟨h2, w', x4', er, P', ok', m', l', f'⟩
theorem link_call (P : Pl H p a b mk rs rows) (ok : RowsOk rows) (lp : LsP H a b rs dP pl) (lo : LsP H a b rs dO os) (pb : ∀ i ∈ pl, i < rows.length) (ob : ∀ q ∈ os, q < 1000) :
    ∃ H' rows', callC 3 m_Plan_link [.ref p, dP, dO] H = .ok .non H' ∧ Pl H' p a b mk rs rows' ∧ RowsOk rows' ∧ LinkR rows pl os rows' ∧ H'.length = H.length ∧ FrP H H' a b rs := by
  obtain ⟨src, e, mn, sr⟩ := lp.src
  obtain ⟨e2, h2, er, rows', x3, x4, rfl, P', ok', m', l', f'⟩ := for_srcI (it := iSeq (mVar 1)) (gg := gSet 3) (bd := b_Plan_link_2) (env := [some (.ref p), some dP, some dO, none, none]) (src := src) (ds := pl.map nD)
    (fun k env h => ∃ rows' x3 x4, env = [some (.ref p), some dP, some dO, x3, x4] ∧ Pl h p a b mk rs rows' ∧ RowsOk rows' ∧ LinkR rows (pl.take k) os rows' ∧ h.length = H.length ∧ (∀ K, FrP K H a b rs → FrP K h a b rs))
    (e _ _ rfl) (by
      rintro j env h ⟨rows', x3, x4, rfl, P', ok', m', l', f'⟩
      exact sr h rs (lp.keep (f' H FrP.refl) Ext2.refl)) mn ⟨rows, none, none, rfl, P, ok, ⟨rfl, fun i w h => ⟨w, h, (fun q => by simp), fun _ => rfl⟩⟩, rfl, fun K f => f⟩ (by
      rintro k d env h hd ⟨rows', x3, x4, rfl, P', ok', ⟨m1, m2⟩, l', f'⟩
      rw [List.getElem?_map] at hd
      cases hi : pl[k]? with
      | none => rw [hi] at hd; cases hd
      | some i =>
        rw [hi] at hd
        cases hd
        have ib := pb i (List.mem_of_getElem? hi)
        have hw : rows'[i]? = some rows'[i] := List.getElem?_eq_getElem (by omega)
        generalize rows'[i] = w at hw
        obtain ⟨h3, w3, x3, e3, P3, ok3, m3, l3, f3⟩ := link_inner (dP := dP) (x4 := x4) P' ok' (lo.keep (f' H FrP.refl) Ext2.refl) ob hw
        refine ⟨_, _, h3, rfl, e3, rows'.set i w3, some (.int (i : Nat)), x3, rfl, P3, ok3, ⟨by rw [List.length_set]; exact m1, fun j v hv => ?_⟩, by rw [l3, l'], fun K f => f3 K (f' K f)⟩
        by_cases e : j = i
        · subst e
          rw [List.getElem?_set_self (by omega)] at hv
          cases hv
          obtain ⟨w0, e0, h0, _⟩ := m2 j w hw
          refine ⟨w0, e0, fun q => ?_, fun z => absurd ((take_mem hi).mpr (.inr rfl)) z⟩
          rw [m3, h0, take_mem hi]
          constructor
          · rintro ((z | ⟨z, z2⟩) | z)
            · exact .inl z
            · exact .inr ⟨.inl z, z2⟩
            · exact .inr ⟨.inr rfl, z⟩
          · rintro (z | ⟨z | z, z2⟩)
            · exact .inl (.inl z)
            · exact .inl (.inr ⟨z, z2⟩)
            · exact .inr z2
        · rw [List.getElem?_set_ne (Ne.symm e)] at hv
          obtain ⟨w0, e0, h0, h9⟩ := m2 j v hv
          refine ⟨w0, e0, fun q => ?_, fun z => h9 fun z2 => z ((take_mem hi).mpr (.inl z2))⟩
          rw [h0, take_mem hi]
          simp [e])
  rw [List.length_map, List.take_length] at m'
  refine ⟨h2, rows', callC_len rfl ?_ l', P', ok', m', l', f' H FrP.refl⟩
  unfold m_Plan_link
  rw [ap_fnM]
  simp only [List.map_cons, List.map_nil, List.length_cons, List.length_nil, List.cons_append, List.nil_append, Nat.reduceAdd, Nat.reduceSub, List.replicate]
  rw [er]
  rfl
theorem callC_keep2 {h h' : IH} {n k : Nat} {fm : MF} {ds : List D} {d : D} {c0 c1 : Cell} (hn : ds.length = k) (e : fm ds h = .ok d h') (e0 : h[n]? = some c0) (e1 : h'[n]? = some c1) (ne : c0 ≠ c1) (lo : Cell.lo h.length c1 = false) : callC k fm ds h = .ok d h' := by
  unfold callC
  rw [if_pos hn, e]
  unfold clean
  dsimp only
  rw [if_neg]
  rintro ⟨_, o⟩
  rcases okB_get o (List.getElem?_eq_some_iff.mp e0).1 e1 with z | z
  · rw [e0] at z
    exact ne (Option.some.inj z)
  · rw [lo] at z
    cases z
/-- a place is laid -/
theorem lay_call (P : Pl H p a b mk rs rows) (rl : rows.length ≤ 1000) {s : List Nat} :
    ∃ H', callC 2 m_Plan_lay [.ref p, .str s] H = .ok (.int (rows.length : Nat)) H' ∧ Pl H' p a b (mk ++ [s]) (rs ++ [H.length]) (rows ++ [[]]) ∧ FrP H H' a b rs ∧ H.length < H'.length := by
  have hpl := (List.getElem?_eq_some_iff.mp P.pa).1
  have hal := (List.getElem?_eq_some_iff.mp P.ma).1
  have hbl := (List.getElem?_eq_some_iff.mp P.na).1
  have pa := P.pn P.ma
  have pb := P.pn P.na
  have ml := P.ml
  have ln := P.len
  have ins1 : insAt "Plan" H (.ref p) = some (plF a b) := insAt_ref P.pa
  have lm : List.lookup ("marks" : Str) (plF a b) = some (.ref a) := rfl
  have lk : List.lookup ("nexts" : Str) (plF a b) = some (.ref b) := rfl
  have ty1 : tyD "list" H (.ref a) = true := tyD_ref P.ma
  have ap1 : fAppend (.ref a) [.str s] H = .ok .non (H.set a (.lst ((mk ++ [s]).map D.str))) := by
    rw [append_at P.ma (by rw [List.length_map]; omega), List.map_append]
    rfl
  have p1 : (H.set a (.lst ((mk ++ [s]).map D.str)))[p]? = some (.ins "Plan" (plF a b)) := by rw [List.getElem?_set_ne (Ne.symm pa)]; exact P.pa
  have ins2 : insAt "Plan" (H.set a (.lst ((mk ++ [s]).map D.str))) (.ref p) = some (plF a b) := insAt_ref p1
  have n2 : (H.set a (.lst ((mk ++ [s]).map D.str)))[b]? = some (.lst (rs.map D.ref)) := by rw [List.getElem?_set_ne P.ab]; exact P.na
  have l1 : (H.set a (.lst ((mk ++ [s]).map D.str))).length = H.length := List.length_set
  have a1 : (H.set a (.lst ((mk ++ [s]).map D.str)))[a]? = some (.lst ((mk ++ [s]).map D.str)) := List.getElem?_set_self hal
  have old1 : ∀ i c, i ≠ a → H[i]? = some c → (H.set a (.lst ((mk ++ [s]).map D.str)))[i]? = some c := fun i c n h => by rw [List.getElem?_set_ne (Ne.symm n)]; exact h
  generalize hH1 : H.set a (.lst ((mk ++ [s]).map D.str)) = H1 at *
  have ty2 : tyD "list" H1 (.ref b) = true := tyD_ref n2
  have ap2 : fAppend (.ref b) [.ref H.length] (H1 ++ [Cell.lst []]) = .ok .non ((H1 ++ [Cell.lst []]).set b (.lst ((rs ++ [H.length]).map D.ref))) := by
    rw [append_at (get_old n2) (by rw [List.length_map]; omega), List.map_append]
    rfl
  have ty2' : tyD "list" (H1 ++ [Cell.lst []]) (.ref b) = true := tyD_ref (get_old n2)
  have H3l : ((H1 ++ [Cell.lst []]).set b (.lst ((rs ++ [H.length]).map D.ref))).length = H.length + 1 := by simp [l1]
  have p3 : ((H1 ++ [Cell.lst []]).set b (.lst ((rs ++ [H.length]).map D.ref)))[p]? = some (.ins "Plan" (plF a b)) := by rw [List.getElem?_set_ne (Ne.symm pb)]; exact get_old p1
  have a3 : ((H1 ++ [Cell.lst []]).set b (.lst ((rs ++ [H.length]).map D.ref)))[a]? = some (.lst ((mk ++ [s]).map D.str)) := by rw [List.getElem?_set_ne (Ne.symm P.ab)]; exact get_old a1
  have b3 : ((H1 ++ [Cell.lst []]).set b (.lst ((rs ++ [H.length]).map D.ref)))[b]? = some (.lst ((rs ++ [H.length]).map D.ref)) := List.getElem?_set_self (by simp [l1]; omega)
  have new3 : ((H1 ++ [Cell.lst []]).set b (.lst ((rs ++ [H.length]).map D.ref)))[H.length]? = some (.lst []) := by
    rw [List.getElem?_set_ne (by omega), ← l1]
    exact get_last
  have old3 : ∀ i c, i ≠ a → i ≠ b → H[i]? = some c → ((H1 ++ [Cell.lst []]).set b (.lst ((rs ++ [H.length]).map D.ref)))[i]? = some c := fun i c n1 n2 h => by
    rw [List.getElem?_set_ne (Ne.symm n2)]
    exact get_old (old1 i c n1 h)
  have rlt : ∀ r ∈ rs, r < H.length := fun r hr => by
    obtain ⟨i, hi⟩ := List.mem_iff_getElem?.mp hr
    have h1 := (List.getElem?_eq_some_iff.mp hi).1
    exact (List.getElem?_eq_some_iff.mp (P.row i r _ hi (List.getElem?_eq_getElem (by omega)))).1
  refine ⟨(H1 ++ [Cell.lst []]).set b (.lst ((rs ++ [H.length]).map D.ref)), callC_keep2 (n := b) rfl ?_ P.na b3 (fun z => ?_) ?_, ⟨p3, a3, b3, by simp [ln], by simp [ml], fun i r w hr hw => ?_, ?_, P.ab, fun z => ?_, fun z => ?_⟩, ⟨by omega, fun i c h no => old3 i c (fun z => no (.inl z)) (fun z => no (.inr (.inl z))) h⟩, by omega⟩
  · have ins3 : insAt "Plan" ((H1 ++ [Cell.lst []]).set b (.lst ((rs ++ [H.length]).map D.ref))) (.ref p) = some (plF a b) := insAt_ref p3
    have bl3 : bLen [.ref a] ((H1 ++ [Cell.lst []]).set b (.lst ((rs ++ [H.length]).map D.ref))) = .ok (.int ((rows.length + 1 : Nat) : Int)) ((H1 ++ [Cell.lst []]).set b (.lst ((rs ++ [H.length]).map D.ref))) := by
      rw [bLen_ref a3, List.length_map, List.length_append, ml]
      rfl
    generalize hH3 : (H1 ++ [Cell.lst []]).set b (.lst ((rs ++ [H.length]).map D.ref)) = H3 at *
    generalize plF a b = FS at *
    unfold m_Plan_lay
    rw [ap_fnM]
    simp only [List.map_cons, List.map_nil, List.length_cons, List.length_nil, List.cons_append, List.nil_append, Nat.reduceAdd, Nat.reduceSub, List.replicate]
    refine stN (env2 := [some (.ref p), some (.str s)]) (h2 := H1) (by simp [ins1, lm, ty1, ap1]) ?_
    refine stN (env2 := [some (.ref p), some (.str s)]) (h2 := H3) (by simp [ins2, lk, ty2, newL, l1, ap2]) ?_
    simp [ins3, lm, bl3]
  · injection z with z1
    have := congrArg List.length z1
    simp at this
  · show D.loL H.length ((rs ++ [H.length]).map D.ref) = false
    rw [← Bool.not_eq_true]
    intro z
    have : ∀ (l : List Nat), D.loL H.length (l.map D.ref) = true → ∀ r ∈ l, r < H.length := by
      intro l
      induction l with
      | nil => simp
      | cons r l ih =>
        intro h x hx
        simp only [List.map_cons, D.loL, D.lo, Bool.and_eq_true, decide_eq_true_eq] at h
        rcases List.mem_cons.mp hx with rfl | hx
        · exact h.1
        · exact ih h.2 x hx
    have := this _ z H.length (by simp)
    omega
  · by_cases hi : i < rs.length
    · rw [List.getElem?_append_left hi] at hr
      rw [List.getElem?_append_left (by omega)] at hw
      have h := P.row i r w hr hw
      have rm := List.mem_of_getElem? hr
      exact old3 r _ (fun z => P.ar (z ▸ rm)) (fun z => P.br (z ▸ rm)) h
    · have il := (List.getElem?_eq_some_iff.mp hr).1
      rw [List.length_append, List.length_singleton] at il
      have : i = rs.length := by omega
      subst this
      rw [List.getElem?_append_right (Nat.le_refl _), Nat.sub_self] at hr
      rw [ln, List.getElem?_append_right (Nat.le_refl _), Nat.sub_self] at hw
      cases hr
      cases hw
      exact new3
  · rw [List.nodup_append]
    refine ⟨P.nd, by simp, fun x hx y hy => ?_⟩
    rw [List.mem_singleton] at hy
    have := rlt x hx
    omega
  · rcases List.mem_append.mp z with z | z
    · exact P.ar z
    · rw [List.mem_singleton] at z
      omega
  · rcases List.mem_append.mp z with z | z
    · exact P.br z
    · rw [List.mem_singleton] at z
      omega
end
end NR

set_option Elab.async false
set_option linter.all false
set_option maxRecDepth 100000
set_option maxHeartbeats 4000000
namespace NR
open PySem PySem.Spec PyProof.Rows L2
section
variable {H H' : IH} {p a b : Nat} {mk mk' : List (List Nat)} {rs rs' : List Nat} {rows rows' : List (List Nat)} {d f l f2 l2 : D} {F L F2 L2 xs ys : List Nat} {e e2 : Bool}
theorem LsP.ls (h : LsP H a b rs d xs) : lsOf H d = some (xs.map nD) := by
  rcases h with rfl | ⟨n, rfl, h, _⟩
  · rfl
  · unfold lsOf
    dsimp only
    rw [h]
theorem dAdd_ls {d2 : D} (h1 : LsP H a b rs d xs) (h2 : LsP H a b rs d2 ys) (l : xs.length + ys.length ≤ 10000000) : dAdd d d2 H = newL H ((xs ++ ys).map nD) := by
  have e1 := h1.ls
  have e2 := h2.ls
  have : dAdd d d2 H = match lsOf H d, lsOf H d2 with
    | some xs, some ys => if xs.length + ys.length ≤ 10000000 then .ok (.ref H.length) (H ++ [.lst (xs ++ ys)]) else .no
    | _, _ => .no := by
    rcases h1 with rfl | ⟨n, rfl, _, _⟩ <;> rcases h2 with rfl | ⟨m, rfl, _, _⟩ <;> rfl
  rw [this, e1, e2]
  dsimp only
  rw [if_pos (by rw [List.length_map, List.length_map]; exact l), List.map_append]
  rfl
theorem fz_ls {d2 : D} (h1 : LsP H a b rs d xs) (h2 : LsP H a b rs d2 ys) (l : xs.length + ys.length ≤ 10000000) : fzR H (dAdd d d2 H) = .ok (.fl ((xs ++ ys).map nD)) H := by
  rw [dAdd_ls h1 h2 l, fz_newL]
  exact fzD_same (loL_of fun x hx => by
    obtain ⟨y, _, rfl⟩ := List.mem_map.mp hx
    rfl)
/-- what a laying comes to -/
structure LR (H H' : IH) (p a b : Nat) (mk : List (List Nat)) (rs rs' : List Nat) (rows : List (List Nat)) (f l : D) (F L : List Nat) : Prop where
  P : Pl H' p a b mk rs' rows
  ok : RowsOk rows
  ex : Ext2 H rs rs'
  fr : FrP H H' a b rs
  hf : LsP H' a b rs' f F
  hl : LsP H' a b rs' l L
theorem refs_lo {k : Nat} : ∀ {l : List Nat}, D.loL k (l.map D.ref) = true → ∀ r ∈ l, r < k
  | [], _, r, hr => by cases hr
  | x :: l, h, r, hr => by
    simp only [List.map_cons, D.loL, D.lo, Bool.and_eq_true, decide_eq_true_eq] at h
    rcases List.mem_cons.mp hr with rfl | hr
    · exact h.1
    · exact refs_lo h.2 r hr
theorem Pl.rlt (P : Pl H p a b mk rs rows) : ∀ r ∈ rs, r < H.length := fun r hr => by
  obtain ⟨i, hi⟩ := List.mem_iff_getElem?.mp hr
  have h1 := (List.getElem?_eq_some_iff.mp hi).1
  have := P.len
  exact (List.getElem?_eq_some_iff.mp (P.row i r _ hi (List.getElem?_eq_getElem (by omega)))).1
theorem ref_inj : ∀ {l l' : List Nat}, l.map D.ref = l'.map D.ref → l = l'
  | [], [], _ => rfl
  | [], _ :: _, h => by simp at h
  | _ :: _, [], h => by simp at h
  | x :: l, y :: l', h => by
    simp only [List.map_cons, List.cons.injEq, D.ref.injEq] at h
    rw [h.1, ref_inj h.2]
/-- a call that lays, cleaned or not -/
theorem LR.call {k : Nat} {fm : MF} {ds : List D} (P0 : Pl H p a b mk rs rows) (R : LR H H' p a b mk' rs rs' rows' f l F L) (hn : ds.length = k) (e1 : fm ds H = .ok (.tup [f, l, .bl e]) H') :
    ∃ H'', callC k fm ds H = .ok (.tup [f, l, .bl e]) H'' ∧ LR H H'' p a b mk' rs rs' rows' f l F L := by
  unfold callC
  rw [if_pos hn, e1]
  unfold clean
  dsimp only
  split
  · rename_i h
    obtain ⟨lo, o⟩ := h
    have hal := (List.getElem?_eq_some_iff.mp P0.ma).1
    have hbl := (List.getElem?_eq_some_iff.mp P0.na).1
    have hpl := (List.getElem?_eq_some_iff.mp P0.pa).1
    have tk : ∀ i c, i < H.length → H'[i]? = some c → (H'.take H.length)[i]? = some c := fun i c hi h => by
      rw [List.getElem?_take, if_pos hi]
      exact h
    have rl : ∀ r ∈ rs', r < H.length := by
      rcases okB_get o hbl R.P.na with z | z
      · rw [P0.na] at z
        have z1 : rs.map D.ref = rs'.map D.ref := by injection (Option.some.inj z)
        rw [← ref_inj z1]
        exact P0.rlt
      · exact refs_lo z
    have lof : ∀ (d : D) (xs : List Nat), D.lo H.length d = true → LsP H' a b rs' d xs → LsP (H'.take H.length) a b rs' d xs := fun d xs hd h => by
      rcases h with rfl | ⟨n, rfl, h, no⟩
      · exact .inl rfl
      · simp only [D.lo, decide_eq_true_eq] at hd
        exact .inr ⟨n, rfl, tk n _ hd h, no⟩
    simp only [D.lo, D.loL, Bool.and_eq_true] at lo
    refine ⟨_, rfl, ⟨tk p _ hpl R.P.pa, tk a _ hal R.P.ma, tk b _ hbl R.P.na, R.P.len, R.P.ml, fun i r w hr hw => tk r _ (rl r (List.mem_of_getElem? hr)) (R.P.row i r w hr hw), R.P.nd, R.P.ab, R.P.ar, R.P.br⟩, R.ok, R.ex, ⟨?_, fun i c h no => tk i c (List.getElem?_eq_some_iff.mp h).1 (R.fr.2 i c h no)⟩, lof f F lo.1 R.hf, lof l L lo.2.1 R.hl⟩
    have := R.fr.1
    rw [List.length_take]
    omega
  · exact ⟨_, rfl, R⟩
/-- a list that is made anew -/
def Fsh (H : IH) (d : D) : Prop := ∃ m, d = .ref m ∧ H.length ≤ m
theorem Pl.push {g : IH} (P : Pl H p a b mk rs rows) : Pl (H ++ g) p a b mk rs rows := ⟨get_old P.pa, get_old P.ma, get_old P.na, P.len, P.ml, fun i r w hr hw => get_old (P.row i r w hr hw), P.nd, P.ab, P.ar, P.br⟩
theorem FrP.push {g : IH} : FrP H (H ++ g) a b rs := ⟨by simp, fun i c h _ => get_old h⟩
theorem Pl.no_own (P : Pl H p a b mk rs rows) {n : Nat} (h : H.length ≤ n) : ¬ Own a b rs n := by
  have hal := (List.getElem?_eq_some_iff.mp P.ma).1
  have hbl := (List.getElem?_eq_some_iff.mp P.na).1
  rintro (z | z | z)
  · omega
  · omega
  · have := P.rlt n z
    omega
theorem LsP.new (P : Pl H p a b mk rs rows) {xs : List Nat} : LsP (H ++ [.lst (xs.map nD)]) a b rs (.ref H.length) xs := .inr ⟨_, rfl, get_last, P.no_own (Nat.le_refl _)⟩
theorem in_turn_call (P : Pl H p a b mk rs rows) (ok : RowsOk rows) (hf : LsP H a b rs f F) (hl : LsP H a b rs l L) (hf2 : LsP H a b rs f2 F2) (hl2 : LsP H a b rs l2 L2) (pb : ∀ i ∈ L, i < rows.length) (ob : ∀ q ∈ F2, q < 1000) (fl : F.length + F2.length ≤ 10000000) (ll : L.length + L2.length ≤ 10000000) :
    ∃ H' rows' f3 l3, callC 3 m_in_turn [.ref p, .tup [f, l, .bl e], .tup [f2, l2, .bl e2]] H = .ok (.tup [f3, l3, .bl (e && e2)]) H' ∧ LR H H' p a b mk rs rs rows' f3 l3 (if e = true then F ++ F2 else F) (if e2 = true then L ++ L2 else L2) ∧ LinkR rows L F2 rows' ∧ (f3 = f ∨ Fsh H f3) ∧ (l3 = l2 ∨ Fsh H l3) := by
  obtain ⟨H1, rows1, ek, P1, ok1, lk1, len1, fr1⟩ := link_call P ok hl hf2 pb ob
  have hf' := hf.keep fr1 Ext2.refl
  have hl' := hl.keep fr1 Ext2.refl
  have hf2' := hf2.keep fr1 Ext2.refl
  have hl2' := hl2.keep fr1 Ext2.refl
  have ins_ : insAt "Plan" H (.ref p) = some (plF a b) := insAt_ref P.pa
  have nl : noLook "link" (plF a b) = true := rfl
  -- the firsts
  obtain ⟨H2, f3, ef, P2, fr2, hf3, gf⟩ : ∃ H2 f3, msIf (mTr (mVar 5)) (msSet 3 (mOp dAdd (mVar 3) (mVar 6))) (msNil) [some (.ref p), some (.tup [f, l, .bl e]), some (.tup [f2, l2, .bl e2]), some f, some l, some (.bl e), some f2, some l2, some (.bl e2)] H1 = .nx [some (.ref p), some (.tup [f, l, .bl e]), some (.tup [f2, l2, .bl e2]), some f3, some l, some (.bl e), some f2, some l2, some (.bl e2)] H2 ∧ Pl H2 p a b mk rs rows1 ∧ FrP H1 H2 a b rs ∧ LsP H2 a b rs f3 (if e = true then F ++ F2 else F) ∧ (f3 = f ∨ Fsh H f3) := by
    cases e with
    | true =>
      have a1 := dAdd_ls hf' hf2' fl
      refine ⟨H1 ++ [.lst ((F ++ F2).map nD)], .ref H1.length, ?_, P1.push, FrP.push, LsP.new P1, .inr ⟨_, rfl, by omega⟩⟩
      generalize (F ++ F2).map nD = FF at *
      simp [a1, newL]
    | false => exact ⟨H1, f, by simp, P1, FrP.refl, hf', .inl rfl⟩
  have hl'' := hl'.keep fr2 Ext2.refl
  have hl2'' := hl2'.keep fr2 Ext2.refl
  obtain ⟨H3, l3, el, P3, fr3, hl3, gl⟩ : ∃ H3 l3, msIf (mTr (mVar 8)) (msSet 7 (mOp dAdd (mVar 4) (mVar 7))) (msNil) [some (.ref p), some (.tup [f, l, .bl e]), some (.tup [f2, l2, .bl e2]), some f3, some l, some (.bl e), some f2, some l2, some (.bl e2)] H2 = .nx [some (.ref p), some (.tup [f, l, .bl e]), some (.tup [f2, l2, .bl e2]), some f3, some l, some (.bl e), some f2, some l3, some (.bl e2)] H3 ∧ Pl H3 p a b mk rs rows1 ∧ FrP H2 H3 a b rs ∧ LsP H3 a b rs l3 (if e2 = true then L ++ L2 else L2) ∧ (l3 = l2 ∨ Fsh H l3) := by
    cases e2 with
    | true =>
      have a2 := dAdd_ls hl'' hl2'' ll
      refine ⟨H2 ++ [.lst ((L ++ L2).map nD)], .ref H2.length, ?_, P2.push, FrP.push, LsP.new P2, .inr ⟨_, rfl, by have := fr2.1; omega⟩⟩
      generalize (L ++ L2).map nD = LL at *
      simp [a2, newL]
    | false => exact ⟨H2, l2, by simp, P2, FrP.refl, hl2'', .inl rfl⟩
  have R : LR H H3 p a b mk rs rs rows1 f3 l3 (if e = true then F ++ F2 else F) (if e2 = true then L ++ L2 else L2) := ⟨P3, ok1, Ext2.refl, (fr1.trans fr2 Ext2.refl).trans fr3 Ext2.refl, hf3.keep fr3 Ext2.refl, hl3⟩
  have ev : m_in_turn [.ref p, .tup [f, l, .bl e], .tup [f2, l2, .bl e2]] H = .ok (.tup [f3, l3, .bl (e && e2)]) H3 := by
    generalize plF a b = FS at *
    unfold m_in_turn
    rw [ap_fnM]
    simp only [List.map_cons, List.map_nil, List.length_cons, List.length_nil, List.cons_append, List.nil_append, Nat.reduceAdd, Nat.reduceSub, List.replicate]
    refine stN (env2 := [some (.ref p), some (.tup [f, l, .bl e]), some (.tup [f2, l2, .bl e2]), some f, some l, some (.bl e), none, none, none]) (h2 := H) (by simp [gSets]) ?_
    refine stN (env2 := [some (.ref p), some (.tup [f, l, .bl e]), some (.tup [f2, l2, .bl e2]), some f, some l, some (.bl e), some f2, some l2, some (.bl e2)]) (h2 := H) (by simp [gSets]) ?_
    refine stN (env2 := [some (.ref p), some (.tup [f, l, .bl e]), some (.tup [f2, l2, .bl e2]), some f, some l, some (.bl e), some f2, some l2, some (.bl e2)]) (h2 := H1) (by simp [ins_, nl, ek]) ?_
    refine stN ef ?_
    refine stN el ?_
    cases e <;> simp
  obtain ⟨H4, e4, R4⟩ := R.call (k := 3) P rfl ev
  exact ⟨H4, rows1, f3, l3, e4, R4, lk1, gf, gl⟩
end
end NR

set_option Elab.async false
set_option linter.all false
set_option maxRecDepth 100000
set_option maxHeartbeats 4000000
namespace NR
open PySem PySem.Spec PyProof.Rows L2
/-! ### the draws: a source's cell -/
def PC (cs : List Int) (i l n m : Int) : Cell := .lst [.fl (cs.map D.int), .int i, .int l, .int n, .int m]
/-- b draws can still be made -/
def Pn (b : Nat) (c : Cell) : Prop := ∃ (cs : List Int) (i l n m : Int), c = PC cs i l n m ∧ (∀ x ∈ cs, 0 ≤ x) ∧ cs.length ≤ 63 ∧ 0 ≤ i ∧ 0 ≤ l ∧ 0 ≤ n ∧ n + b ≤ 1000000000000 ∧ 0 ≤ m ∧ m < 2147483647
theorem Pn.mono {b b' : Nat} {c : Cell} (h : Pn b c) (l : b' ≤ b) : Pn b' c := by
  obtain ⟨cs, i, l, n, m, h1, h2, h3, h4, h5, h6, h7, h8⟩ := h
  exact ⟨cs, i, l, n, m, h1, h2, h3, h4, h5, h6, by omega, h8⟩
theorem Pn.lo {b : Nat} {c : Cell} (h : Pn b c) (k : Nat) : Cell.lo k c = true := by
  obtain ⟨cs, i, l, n, m, rfl, _⟩ := h
  simp [PC]
theorem Pn_lo : ∀ (b : Nat) (c : Cell) (k : Nat), Pn b c → Cell.lo k c = true := fun _ _ k h => h.lo k
theorem draw_call {b : Nat} {z c : Cell} {g : IH} {m : Int} (h : Pn (b + 1) c) (h1 : 1 ≤ m) (h2 : m ≤ 1000000) :
    ∃ (t : Nat) (c' : Cell), callC 2 m__law_draw [.ref 1, .int m] (z :: c :: g) = .ok (.int (t : Nat)) (z :: c' :: g) ∧ (t : Int) < m ∧ Pn b c' := by
  obtain ⟨cs, i, l, n, x, rfl, cs0, cs1, i0, l0, n0, n1, x0, x1⟩ := h
  have hm1 : (0 : Int) < m := by omega
  have hm2 : m < 18446744073709551616 := by omega
  -- the state behind the first part
  have first : ∃ (i' l' x' : Int), 0 ≤ i' ∧ 0 ≤ l' ∧ 0 ≤ x' ∧ x' < 2147483647 ∧ ∃ s2 : Option D, ∀ k : MS, RS.then (msIf (mAnd (mTb (mOp (dEq false) (mOp dIx (mVar 0) (mC (.int 2))) (mC (.int 0)))) (mTb (mOp dLt (mOp dIx (mVar 0) (mC (.int 1))) (mB bLen (mCons (mOp dIx (mVar 0) (mC (.int 0))) (mNil)))))) (msCons (msSet 2 (mOp dIx (mOp dIx (mVar 0) (mC (.int 0))) (mOp dIx (mVar 0) (mC (.int 1)))))
    (msCons (msAugI dIAdd (mVar 0) (mC (.int 1)) (mC (.int 1)))
    (msIf (mTb (mOp dGe (mVar 2) (mOp dPow (mC (.int 10)) (mC (.int 18))))) (msSetI (mVar 0) (mC (.int 2)) (mVar 2)) (msSetI (mVar 0) (mC (.int 4)) (mOp dMod (mOp dAdd (mOp dMul (mOp dIx (mVar 0) (mC (.int 4))) (mC (.int 31))) (mVar 2)) (mC (.int 2147483647))))))) (msNil) [some (.ref 1), some (.int m), none, none] (z :: PC cs i l (n + 1) x :: g)) k = k [some (.ref 1), some (.int m), s2, none] (z :: PC cs i' l' (n + 1) x' :: g) := by
    have g0 : ∀ a b c d : Int, dIx (.ref 1) (.int 0) (z :: PC cs a b c d :: g) = .ok (.fl (cs.map D.int)) (z :: PC cs a b c d :: g) := fun a b c d => dIx_ref (n := 1) rfl (by omega) rfl
    have g1 : ∀ a b c d : Int, dIx (.ref 1) (.int 1) (z :: PC cs a b c d :: g) = .ok (.int a) (z :: PC cs a b c d :: g) := fun a b c d => dIx_ref (n := 1) rfl (by omega) rfl
    have g2 : ∀ a b c d : Int, dIx (.ref 1) (.int 2) (z :: PC cs a b c d :: g) = .ok (.int b) (z :: PC cs a b c d :: g) := fun a b c d => dIx_ref (n := 1) rfl (by omega) rfl
    have g4 : ∀ a b c d : Int, dIx (.ref 1) (.int 4) (z :: PC cs a b c d :: g) = .ok (.int d) (z :: PC cs a b c d :: g) := fun a b c d => dIx_ref (n := 1) rfl (by omega) rfl
    have k1 : ∀ a b c d : Int, getL (.ref 1) (.int 1) (z :: PC cs a b c d :: g) = some (.int a) := fun a b c d => getL_ref (n := 1) rfl (by omega) rfl
    have q1 : ∀ a b c d v : Int, putD (.ref 1) (.int 1) (.int v) (z :: PC cs a b c d :: g) = some (z :: PC cs v b c d :: g) := fun a b c d v => putD_ref (n := 1) (xs := [.fl (cs.map D.int), .int a, .int b, .int c, .int d]) rfl (by omega) (by simp)
    have q2 : ∀ a b c d v : Int, putD (.ref 1) (.int 2) (.int v) (z :: PC cs a b c d :: g) = some (z :: PC cs a v c d :: g) := fun a b c d v => putD_ref (n := 1) (xs := [.fl (cs.map D.int), .int a, .int b, .int c, .int d]) rfl (by omega) (by simp)
    have q4 : ∀ a b c d v : Int, putD (.ref 1) (.int 4) (.int v) (z :: PC cs a b c d :: g) = some (z :: PC cs a b c v :: g) := fun a b c d v => putD_ref (n := 1) (xs := [.fl (cs.map D.int), .int a, .int b, .int c, .int d]) rfl (by omega) (by simp)
    by_cases c1 : l = 0
    · by_cases c2 : i < cs.length
      · have hi : i.toNat < cs.length := by omega
        have hx : (cs.map D.int)[i.toNat]? = some (.int cs[i.toNat]) := by rw [List.getElem?_map, List.getElem?_eq_getElem hi]; rfl
        have y0 : 0 ≤ cs[i.toNat] := cs0 _ (List.getElem_mem hi)
        have gx : ∀ h : IH, dIx (.fl (cs.map D.int)) (.int i) h = .ok (.int cs[i.toNat]) h := fun h => dIx_seq rfl i0 hx
        generalize cs[i.toNat] = y at gx y0
        by_cases c3 : 1000000000000000000 ≤ y
        · exact ⟨i + 1, y, x, by omega, by omega, x0, x1, some (.int y), fun k => by simp [g0, g1, g2, g4, k1, q1, q2, q4, c1, c2, c3, gx, cPow]⟩
        · exact ⟨i + 1, 0, (x * 31 + y) % 2147483647, by omega, by omega, Int.emod_nonneg _ (by omega), Int.emod_lt_of_pos _ (by omega), some (.int y), fun k => by simp [g0, g1, g2, g4, k1, q1, q2, q4, c1, c2, c3, gx, cPow, cMul, cMod]⟩
      · exact ⟨i, l, x, i0, l0, x0, x1, none, fun k => by simp [g0, g1, g2, c1, c2]⟩
    · exact ⟨i, l, x, i0, l0, x0, x1, none, fun k => by simp [g0, g1, g2, c1]⟩
  obtain ⟨i', l', x', i0', l0', x0', x1', s2, first⟩ := first
  have g2 : ∀ a b c d : Int, dIx (.ref 1) (.int 2) (z :: PC cs a b c d :: g) = .ok (.int b) (z :: PC cs a b c d :: g) := fun a b c d => dIx_ref (n := 1) rfl (by omega) rfl
  have g3 : ∀ a b c d : Int, dIx (.ref 1) (.int 3) (z :: PC cs a b c d :: g) = .ok (.int c) (z :: PC cs a b c d :: g) := fun a b c d => dIx_ref (n := 1) rfl (by omega) rfl
  have g4 : ∀ a b c d : Int, dIx (.ref 1) (.int 4) (z :: PC cs a b c d :: g) = .ok (.int d) (z :: PC cs a b c d :: g) := fun a b c d => dIx_ref (n := 1) rfl (by omega) rfl
  have k2 : ∀ a b c d : Int, getL (.ref 1) (.int 2) (z :: PC cs a b c d :: g) = some (.int b) := fun a b c d => getL_ref (n := 1) rfl (by omega) rfl
  have k3 : ∀ a b c d : Int, getL (.ref 1) (.int 3) (z :: PC cs a b c d :: g) = some (.int c) := fun a b c d => getL_ref (n := 1) rfl (by omega) rfl
  have q2 : ∀ a b c d v : Int, putD (.ref 1) (.int 2) (.int v) (z :: PC cs a b c d :: g) = some (z :: PC cs a v c d :: g) := fun a b c d v => putD_ref (n := 1) (xs := [.fl (cs.map D.int), .int a, .int b, .int c, .int d]) rfl (by omega) (by simp)
  have q3 : ∀ a b c d v : Int, putD (.ref 1) (.int 3) (.int v) (z :: PC cs a b c d :: g) = some (z :: PC cs a b v d :: g) := fun a b c d v => putD_ref (n := 1) (xs := [.fl (cs.map D.int), .int a, .int b, .int c, .int d]) rfl (by omega) (by simp)
  have fin : ∀ (t l2 : Int), m__law_draw [.ref 1, .int m] (z :: PC cs i l n x :: g) = .ok (.int t) (z :: PC cs i' l2 (n + 1) x' :: g) → 0 ≤ t → t < m → 0 ≤ l2 → _ := fun t l2 e t0 t1 l20 =>
    (⟨t.toNat, PC cs i' l2 (n + 1) x', callC_len rfl (by rw [e, Int.toNat_of_nonneg t0]) (by simp), by omega, cs, i', l2, n + 1, x', rfl, cs0, cs1, i0', l20, by omega, by omega, x0', x1'⟩ : ∃ (t : Nat) (c' : Cell), callC 2 m__law_draw [.ref 1, .int m] (z :: PC cs i l n x :: g) = .ok (.int (t : Nat)) (z :: c' :: g) ∧ (t : Int) < m ∧ Pn b c')
  by_cases hl : 0 < l'
  · refine fin (l' % m) (l' / m) ?_ (Int.emod_nonneg _ (by omega)) (Int.emod_lt_of_pos _ hm1) (Int.ediv_nonneg l0' (by omega))
    unfold m__law_draw
    rw [ap_fnM]
    show RS.fin (RS.then (msAugI _ _ _ _ [some (.ref 1), some (.int m), none, none] _) _) = _
    simp only [ap_msAugI, ap_mVar, ap_mC, get_zero, bindS_ok, k3, dIAdd_int, q3, then_nx]
    rw [ap_msCons, first]
    simp [g2, k2, q2, hl, cMod, cDiv, hm1, hm2, dI]
  · have w1 : (x' + 1 + (n + 1) * 7919).natAbs < 18446744073709551616 := by omega
    generalize hN : (x' + 1 + (n + 1) * 7919) ^ 3 % 2147483647 = N
    have n0' : 0 ≤ N := by rw [← hN]; exact Int.emod_nonneg _ (by omega)
    have n1' : N < 2147483647 := by rw [← hN]; exact Int.emod_lt_of_pos _ (by omega)
    have w2 : (N * 48271 + (n + 1)).natAbs < 18446744073709551616 := by omega
    refine fin ((N * 48271 + (n + 1)) ^ 2 % 2147483629 / 64 % m) l' ?_ (Int.emod_nonneg _ (by omega)) (Int.emod_lt_of_pos _ hm1) l0'
    unfold m__law_draw
    rw [ap_fnM]
    show RS.fin (RS.then (msAugI _ _ _ _ [some (.ref 1), some (.int m), none, none] _) _) = _
    simp only [ap_msAugI, ap_mVar, ap_mC, get_zero, bindS_ok, k3, dIAdd_int, q3, then_nx]
    rw [ap_msCons, first]
    simp [g2, g3, g4, hl, cMod, cDiv, cMul, cPow, hm1, hm2, w1, w2, hN]
theorem source_eq (ns : List Int) (hl : ns.length ≤ 63) : ∃ c, callC 1 m__law_source [.ref 0] [.frz (ns.map D.int)] = .ok (.ref 1) [.frz (ns.map D.int), c] ∧ Pn 999999999999 c := by
  have e0 : cutD (ns.map D.int) none (some 63) = ns.map D.int := by
    rw [cutD_to (by omega), List.take_of_length_le (by simp; omega)]
  let F : D → D := fun d => match d with
    | .int x => .int (2 * (if x < 0 then -x else x) + (if x < 0 then 1 else 0))
    | d => d
  have eF : (ns.map D.int).map F = (ns.map fun x => 2 * (if x < 0 then -x else x) + (if x < 0 then 1 else 0)).map D.int := by
    rw [List.map_map, List.map_map]
    rfl
  have it : (iSeq (mFz (mSlice (mVar 0) (moNone) (moSome (mC (.int 63)))))) [some (.ref 0), none, none] [.frz (ns.map D.int)] = .ok (.st (ns.map D.int)) [.frz (ns.map D.int)] := by
    rw [ap_iSeq]
    simp only [ap_mFz_slice, ap_mVar, get_zero, bind_ok, ap_moNone, ap_moSome, ap_mC]
    have : sliceD (.ref 0) none (some 63) [.frz (ns.map D.int)] = newL [.frz (ns.map D.int)] (ns.map D.int) := by
      unfold sliceD
      simp [lstOf, e0, newL]
    rw [this, fz_newL, fzD_same (by simp)]
    rfl
  have comp := lcF_map (it := iSeq (mFz (mSlice (mVar 0) (moNone) (moSome (mC (.int 63)))))) (gg := gSet 2) (ws := [2]) (m := e__law_source_1) (ds := ns.map D.int) F it (by simp; omega) (fun d hd => by
      obtain ⟨x, _, rfl⟩ := List.mem_map.mp hd
      rfl) (fun d hd => by
      obtain ⟨x, _, rfl⟩ := List.mem_map.mp hd
      refine ⟨_, rfl, fun h' => ?_⟩
      unfold e__law_source_1
      simp [wipeE, cMul, F])
  rw [eF] at comp
  generalize hcs : (ns.map fun x => 2 * (if x < 0 then -x else x) + (if x < 0 then 1 else 0)) = cs at comp
  have cs0 : ∀ x ∈ cs, 0 ≤ x := by
    intro x hx
    rw [← hcs] at hx
    obtain ⟨y, _, rfl⟩ := List.mem_map.mp hx
    split <;> omega
  have cl : cs.length ≤ 63 := by rw [← hcs]; simpa using hl
  refine ⟨PC cs 0 0 0 (cs.sum % 2147483647), callC_new rfl ?_ (by simp), cs, 0, 0, 0, _, rfl, cs0, cl, by omega, by omega, by omega, by omega, Int.emod_nonneg _ (by omega), Int.emod_lt_of_pos _ (by omega)⟩
  unfold m__law_source
  rw [ap_fnM]
  simp [comp, newL_bindS, cMod, PC]
end NR

set_option Elab.async false
set_option linter.all false
set_option maxRecDepth 100000
set_option maxHeartbeats 4000000
namespace NR
open PySem PySem.Spec PyProof.Rows L2
def allSigns : List Nat := [32, 33, 34, 35, 36, 38, 39, 40, 41, 42, 43, 44, 45, 46, 47, 48, 49, 50, 51, 52, 53, 54, 55, 56, 57, 58, 59, 60, 61, 62, 63, 64, 65, 66, 67, 68, 69, 70, 71, 72, 73, 74, 75, 76, 77, 78, 79, 80, 81, 82, 83, 84, 85, 86, 87, 88, 89, 90, 91, 92, 93, 94, 95, 96, 97, 98, 99, 100, 101, 102, 103, 104, 105, 106, 107, 108, 109, 110, 111, 112, 113, 114, 115, 116, 117, 118, 119, 120, 121, 122, 123, 124, 125, 126, 10]
theorem allSigns_nodup : allSigns.Nodup := by decide
theorem allSigns_len : allSigns.length = 95 := by decide
theorem signs_call (h : IH) : callC 0 m__law_signs [] h = .ok (.str allSigns) h := callC_same rfl (by unfold m__law_signs; simp [dAdd_str_if, allSigns])
/-- a tongue -/
structure Tgn (t : List Nat) : Prop where
  l1 : 1 ≤ t.length
  l2 : t.length ≤ 6
  nd : t.Nodup
  sub : ∀ c ∈ t, c ∈ allSigns
theorem erase_cut (l : List Nat) (i : Nat) : l.take i ++ l.drop (i + 1) = l.eraseIdx i := (List.eraseIdx_eq_take_drop_succ l i).symm
theorem nodup_erase {l : List Nat} (h : l.Nodup) (i : Nat) : (l.eraseIdx i).Nodup := h.sublist (List.eraseIdx_sublist l i)
theorem not_mem_erase {l : List Nat} (h : l.Nodup) {i c : Nat} (e : l[i]? = some c) : c ∉ l.eraseIdx i := by
  intro hm
  rw [List.mem_eraseIdx_iff_getElem?] at hm
  obtain ⟨j, hj, ej⟩ := hm
  obtain ⟨h1, e1⟩ := List.getElem?_eq_some_iff.mp e
  obtain ⟨h2, e2⟩ := List.getElem?_eq_some_iff.mp ej
  have hp := List.pairwise_iff_getElem.mp h
  rcases Nat.lt_or_gt_of_ne hj with l1 | l1
  · exact hp j i h2 h1 l1 (e2.trans e1.symm)
  · exact hp i j h1 h2 l1 (e1.trans e2.symm)
end NR

set_option Elab.async false
set_option linter.all false
set_option maxRecDepth 100000
set_option maxHeartbeats 4000000
namespace NR
open PySem PySem.Spec PyProof.Rows L2
theorem tongue_call {b : Nat} {z c : Cell} {g : IH} (hp : Pn (b + 7) c) :
    ∃ t c', callC 1 m__law_tongue [.ref 1] (z :: c :: g) = .ok (.str t) (z :: c' :: g) ∧ Tgn t ∧ Pn b c' := by
  obtain ⟨t, c1, e1, t1, p1⟩ := draw_call (b := b + 6) (z := z) (g := g) (m := 6) hp (by omega) (by omega)
  have main : ∃ f c' x y rs, forM (.st (intsFrom 0 (1 + (t : Int)).toNat)) (gSet 3) b__law_tongue_1 ((Src.st (intsFrom 0 (1 + (t : Int)).toNat)).many (z :: c1 :: g) + 1) 0 [some (.ref 1), some (.str allSigns), some (.str []), none, none] (z :: c1 :: g) =
      .nx [some (.ref 1), some (.str rs), some (.str f), x, y] (z :: c' :: g) ∧ Tgn f ∧ Pn b c' := by
    have lk : (intsFrom 0 (1 + (t : Int)).toNat).length = t + 1 := by simp [intsFrom]; omega
    refine for_inv (P := fun i env h => ∃ (f rs : List Nat) (c' : Cell) (x y : Option D), env = [some (.ref 1), some (.str rs), some (.str f), x, y] ∧ h = z :: c' :: g ∧ f.length = i ∧ rs.length + i = 95 ∧ f.Nodup ∧ rs.Nodup ∧ (∀ k ∈ f, k ∉ rs) ∧ (∀ k ∈ f, k ∈ allSigns) ∧ (∀ k ∈ rs, k ∈ allSigns) ∧ i ≤ 6 ∧ Pn (b + (6 - i)) c')
      (Rs := fun r => ∃ f c' x y rs, r = .nx [some (.ref 1), some (.str rs), some (.str f), x, y] (z :: c' :: g) ∧ Tgn f ∧ Pn b c')
      ⟨[], allSigns, c1, none, none, rfl, rfl, rfl, by decide, by simp, allSigns_nodup, by simp, by simp, fun c hc => hc, by omega, p1⟩ ?_ ?_
    · rintro i d env h hd ⟨f, rs, c', x, y, rfl, rfl, lf, lr, nf, nr, dj, s1, s2, i6, p⟩
      have hi : i < t + 1 := by
        have := (List.getElem?_eq_some_iff.mp hd).1
        omega
      refine ⟨_, rfl, ?_⟩
      obtain ⟨u, c2, e2, u1, p2⟩ := draw_call (b := b + (6 - (i + 1))) (z := z) (g := g) (m := rs.length) (p.mono (by omega)) (by omega) (by omega)
      have hu : u < rs.length := by omega
      have hc : rs[u]? = some rs[u] := List.getElem?_eq_getElem hu
      generalize rs[u] = k at hc
      have hkm : k ∈ rs := List.mem_of_getElem? hc
      have b1 : ∀ h, bLen [.str rs] h = .ok (.int (rs.length : Nat)) h := fun h => bLen_str (by omega)
      have b2 : ∀ h, dIx (.str rs) (.int (u : Nat)) h = .ok (.str [k]) h := fun h => dIx_str (by omega) (by simpa using hc) (by omega)
      have b3 : ∀ h, dIAdd (.str f) (.str [k]) h = .ok (.str (f ++ [k])) h := fun h => dIAdd_str (by simp; omega)
      have b4 : ∀ h, sliceD (.str rs) none (some (u : Nat)) h = .ok (.str (rs.take u)) h := fun h => by rw [sliceD_str (by omega), cutN_to (by omega)]; simp
      have b5 : ∀ h, sliceD (.str rs) (some ((u : Nat) + 1)) none h = .ok (.str (rs.drop (u + 1))) h := fun h => by rw [sliceD_str (by omega), cutN_from (by omega)]; congr 2
      have b6 : ∀ h, dAdd (.str (rs.take u)) (.str (rs.drop (u + 1))) h = .ok (.str (rs.eraseIdx u)) h := fun h => by
        rw [dAdd_str, erase_cut]
        rw [List.length_take, List.length_drop]
        omega
      unfold b__law_tongue_1
      simp only [ap_msCons, ap_msSet, ap_msAug, ap_mCall, ap_mCons, ap_mNil, ap_mVar, ap_mB, ap_mOp, ap_mFz_slice, ap_mFz_op, ap_mSlice, ap_moNone, ap_moSome, ap_mC, bind_ok, bindS_ok, then_nx, List.set_cons_zero, List.set_cons_succ, List.getElem?_cons_zero, List.getElem?_cons_succ, b1, e2, b2, b3, b4, b5, b6, dAdd_int, fz_str, Nx_nx]
      refine ⟨f ++ [k], rs.eraseIdx u, c2, _, _, rfl, rfl, by simp; omega, ?_, ?_, nodup_erase nr _, ?_, ?_, fun j hj => s2 j ((List.eraseIdx_sublist _ _).subset hj), by omega, p2⟩
      · rw [List.length_eraseIdx, if_pos (by omega)]
        omega
      · rw [List.nodup_append]
        exact ⟨nf, by simp, fun a ha j hj => by rw [List.mem_singleton] at hj; subst hj; exact fun z => dj a ha (z ▸ hkm)⟩
      · intro a ha
        rcases List.mem_append.mp ha with ha | ha
        · exact fun z => dj a ha ((List.eraseIdx_sublist _ _).subset z)
        · rw [List.mem_singleton] at ha
          subst ha
          exact not_mem_erase nr hc
      · intro a ha
        rcases List.mem_append.mp ha with ha | ha
        · exact s1 a ha
        · rw [List.mem_singleton] at ha
          subst ha
          exact s2 a hkm
    · rintro env h ⟨f, rs, c', x, y, rfl, rfl, lf, lr, nf, nr, dj, s1, s2, i6, p⟩
      rw [lk] at lf
      exact ⟨f, c', x, y, rs, rfl, ⟨by omega, by omega, nf, s1⟩, p.mono (by omega)⟩
  obtain ⟨f, c', x, y, rs, ef, tg, p'⟩ := main
  refine ⟨f, c', callC_pen0 rfl ?_, tg, p'⟩
  unfold m__law_tongue
  simp [signs_call, e1, show -10000000 ≤ 1 + (t : Int) ∧ 1 + (t : Int) ≤ 10000000 by omega, ef]
end NR

set_option Elab.async false
set_option linter.all false
set_option maxRecDepth 100000
set_option maxHeartbeats 4000000
namespace NR
open PySem PySem.Spec PyProof.Rows L2
theorem intsFrom_get {lo : Int} {n i : Nat} {d : D} (h : (intsFrom lo n)[i]? = some d) : i < n ∧ d = .int (lo + (i : Nat)) := by
  rw [ints_get] at h
  split at h
  · rename_i hi
    cases h
    exact ⟨hi, rfl⟩
  · cases h
@[simp] theorem intsFrom_len {lo : Int} {n : Nat} : (intsFrom lo n).length = n := by simp [intsFrom]
/-- the slots of _law_rooms -/
theorem sgs_of {t : List Nat} : ∀ {ys : List D}, (∀ y ∈ ys, ∃ k, k ∈ t ∧ y = .str [k]) → ∃ s : List Nat, ys = sgD s ∧ ∀ k ∈ s, k ∈ t
  | [], _ => ⟨[], rfl, by simp⟩
  | y :: ys, h => by
    obtain ⟨k, hk, rfl⟩ := h y List.mem_cons_self
    obtain ⟨s, rfl, hs⟩ := sgs_of fun z hz => h z (List.mem_cons_of_mem _ hz)
    exact ⟨k :: s, rfl, by simpa using ⟨hk, hs⟩⟩
theorem join_sg {s : List Nat} {h : IH} (l : s.length ≤ 10000000) : fJoin (.str []) [.fl (sgD s)] h = .ok (.str s) h := by
  have e : sgD s = (s.map fun c => [c]).map D.str := by unfold sgD; rw [List.map_map]; rfl
  have f : (s.map fun c => [c]).flatten = s := by
    clear l e
    induction s with
    | nil => rfl
    | cons c s ih => simp [ih]
  unfold fJoin
  dsimp only
  rw [seqOf_fl, e]
  show (match allM D.str? ((s.map fun c => [c]).map D.str) with | some ys => _ | none => _) = _
  rw [allM_mkStrs]
  dsimp only
  rw [sum_lens, f, List.length_nil, Nat.mul_zero, Nat.add_zero, joinN_nil, f, if_pos l]
/-- .. whose steps draw: Pn b c says that the pen's cell c can draw b times -/
theorem lcF_penI {env : EV} {m : ME} {it : MI} {gg : MG} {ws : List Nat} {ds : List D} {z cc c0 : Cell} {g : IH} {Pn : Nat → Cell → Prop} {b K : Nat} (lop : ∀ b c k, Pn b c → Cell.lo k c = true) (Po : Nat → D → Prop) (hi : it env (z :: cc :: g) = .ok (.st ds) (z :: c0 :: g)) (hl : ds.length ≤ 9000000)
    (hp : Pn (b + K * ds.length) c0) (lo : ∀ i y k, Po i y → D.lo k y = true)
    (step : ∀ i d, ds[i]? = some d → ∃ e1, gg d (wipeE env ws) = some e1 ∧ ∀ b c g, Pn (b + K) c → ∃ y c', m e1 (z :: c :: g) = .ok y (z :: c' :: g) ∧ Pn b c' ∧ Po i y) :
    ∃ ys c', mFz (mLc it gg mYes m ws) env (z :: cc :: g) = .ok (.fl ys) (z :: c' :: g) ∧ ys.length = ds.length ∧ (∀ i y, ys[i]? = some y → Po i y) ∧ Pn b c' := by
  have main : ∃ ys c', lcM (.st ds) gg mYes m (z :: c0 :: g).length ((Src.st ds).many (z :: c0 :: g) + 1) 0 (wipeE env ws) ((z :: c0 :: g) ++ [Cell.lst []]) = .ok (.ref (z :: c0 :: g).length) (z :: c' :: (g ++ [Cell.lst ys])) ∧ ys.length = ds.length ∧ (∀ i y, ys[i]? = some y → Po i y) ∧ Pn b c' := by
    refine lcM_inv (P := fun i h' => ∃ ys c', h' = z :: c' :: (g ++ [Cell.lst ys]) ∧ ys.length = i ∧ (∀ j y, ys[j]? = some y → Po j y) ∧ Pn (b + K * (ds.length - i)) c') (Rs := fun r => ∃ ys c', r = .ok (.ref (z :: c0 :: g).length) (z :: c' :: (g ++ [Cell.lst ys])) ∧ ys.length = ds.length ∧ (∀ i y, ys[i]? = some y → Po i y) ∧ Pn b c') ?_ ?_ ?_
    · rintro i d h' hd ⟨ys, c', rfl, l1, p1, n1⟩
      have hi' := (List.getElem?_eq_some_iff.mp hd).1
      obtain ⟨e1, g1, st⟩ := step i d hd
      have e0 : ds.length - i = (ds.length - (i + 1)) + 1 := by omega
      rw [e0, Nat.mul_succ, ← Nat.add_assoc] at n1
      obtain ⟨y, c2, e2, n2, p2⟩ := st _ c' (g ++ [Cell.lst ys]) n1
      refine ⟨e1, g1, ?_⟩
      show ∃ y h3 acc, m e1 _ = .ok y h3 ∧ _
      refine ⟨y, _, ys, e2, by simp, by omega, ys ++ [y], c2, by simp, by simp [l1], fun j z hz => ?_, n2⟩
      by_cases hj : j < ys.length
      · rw [List.getElem?_append_left hj] at hz
        exact p1 j z hz
      · have hj2 : j = ys.length := by
          have := (List.getElem?_eq_some_iff.mp hz).1
          simp at this
          omega
        subst hj2
        rw [List.getElem?_append_right (Nat.le_refl _), Nat.sub_self] at hz
        simp at hz
        subst hz
        rw [l1]
        exact p2
    · rintro h' ⟨ys, c', rfl, l1, p1, n1⟩
      rw [Nat.sub_self, Nat.mul_zero, Nat.add_zero] at n1
      exact ⟨ys, c', rfl, l1, p1, n1⟩
    · exact ⟨[], c0, by simp, rfl, by simp, by simpa using hp⟩
  obtain ⟨ys, c', e, l1, p1, n1⟩ := main
  refine ⟨ys, c', ?_, l1, p1, n1⟩
  rw [ap_mFz0, ap_mLc, hi]
  show fzR _ (lcM _ _ _ _ _ _ _ _ _) = _
  rw [e, fzR_at (xs := ys) (by simp) (by simp) (loL_of fun x hx => by
    obtain ⟨j, hj⟩ := List.mem_iff_getElem?.mp hx
    exact lo j x _ (p1 j x hj)) (by simp [lop b c' _ n1])]
  simp
/-- a word that is drawn sign by sign, joined -/
theorem word_draw {env : EV} {it : MI} {k : Nat} {e : ME} {z cc c0 : Cell} {g : IH} {t : List Nat} {n b : Nat} (nl : n ≤ 100000) (hi : it env (z :: cc :: g) = .ok (.st (intsFrom 0 n)) (z :: c0 :: g)) (hp : Pn (b + n) c0)
    (step : ∀ d b c g, Pn (b + 1) c → ∃ s c', e ((wipeE env [k]).set k (some d)) (z :: c :: g) = .ok (.str [s]) (z :: c' :: g) ∧ Pn b c' ∧ s ∈ t) :
    ∃ s c', mFz (mLc it (gSet k) mYes e [k]) env (z :: cc :: g) = .ok (.fl (sgD s)) (z :: c' :: g) ∧ s.length = n ∧ (∀ x ∈ s, x ∈ t) ∧ Pn b c' ∧ ∀ h : IH, fJoin (.str []) [.fl (sgD s)] h = .ok (.str s) h := by
  obtain ⟨ys, c4, e4, yl, yp, p4⟩ := lcF_penI (Pn := Pn) (b := b) (K := 1) (z := z) (cc := cc) (c0 := c0) (g := g) (ds := intsFrom 0 n) (env := env) (it := it) (gg := gSet k) (ws := [k]) (m := e) Pn_lo
    (fun _ y => ∃ k, k ∈ t ∧ y = .str [k]) hi (by simp; omega) (hp.mono (by simp)) (by rintro _ y k ⟨x, _, rfl⟩; rfl) (fun j d _ => ⟨_, rfl, fun b c g hb => by
      obtain ⟨s, c', e1, e2, e3⟩ := step d b c g hb
      exact ⟨_, c', e1, e2, s, e3, rfl⟩⟩)
  obtain ⟨s, rfl, sb⟩ := sgs_of (t := t) fun y hy => by
    obtain ⟨j, hj⟩ := List.mem_iff_getElem?.mp hy
    exact yp j y hj
  have sl : s.length = n := by simpa [sgD] using yl
  exact ⟨s, c4, e4, sl, sb, p4, fun h => join_sg (by omega)⟩
end NR

set_option Elab.async false
set_option linter.all false
set_option maxRecDepth 100000
set_option maxHeartbeats 4000000
namespace NR
open PySem PySem.Spec PyProof.Rows L2
/-! ### shapes -/
def kOne : List Nat := [111, 110, 101]
def kRow : List Nat := [114, 111, 119]
def kEit : List Nat := [101, 105, 116, 104, 101, 114]
def kMany : List Nat := [109, 97, 110, 121]
def kTim : List Nat := [116, 105, 109, 101, 115]
@[simp] theorem n_kOne_kRow : (kOne = kRow) = False := eq_false (by decide)
@[simp] theorem n_kOne_kEit : (kOne = kEit) = False := eq_false (by decide)
@[simp] theorem n_kOne_kMany : (kOne = kMany) = False := eq_false (by decide)
@[simp] theorem n_kOne_kTim : (kOne = kTim) = False := eq_false (by decide)
@[simp] theorem n_kRow_kOne : (kRow = kOne) = False := eq_false (by decide)
@[simp] theorem n_kRow_kEit : (kRow = kEit) = False := eq_false (by decide)
@[simp] theorem n_kRow_kMany : (kRow = kMany) = False := eq_false (by decide)
@[simp] theorem n_kRow_kTim : (kRow = kTim) = False := eq_false (by decide)
@[simp] theorem n_kEit_kOne : (kEit = kOne) = False := eq_false (by decide)
@[simp] theorem n_kEit_kRow : (kEit = kRow) = False := eq_false (by decide)
@[simp] theorem n_kEit_kMany : (kEit = kMany) = False := eq_false (by decide)
@[simp] theorem n_kEit_kTim : (kEit = kTim) = False := eq_false (by decide)
@[simp] theorem n_kMany_kOne : (kMany = kOne) = False := eq_false (by decide)
@[simp] theorem n_kMany_kRow : (kMany = kRow) = False := eq_false (by decide)
@[simp] theorem n_kMany_kEit : (kMany = kEit) = False := eq_false (by decide)
@[simp] theorem n_kMany_kTim : (kMany = kTim) = False := eq_false (by decide)
@[simp] theorem n_kTim_kOne : (kTim = kOne) = False := eq_false (by decide)
@[simp] theorem n_kTim_kRow : (kTim = kRow) = False := eq_false (by decide)
@[simp] theorem n_kTim_kEit : (kTim = kEit) = False := eq_false (by decide)
@[simp] theorem n_kTim_kMany : (kTim = kMany) = False := eq_false (by decide)
/-- at most so deep -/
inductive IsSh : Nat → D → Prop
  | one {d : Nat} {s : List Nat} : IsSh (d + 1) (.tup [.str kOne, .str s])
  | row {d : Nat} {l : List D} (n : l.length ≤ 100) (h : ∀ y ∈ l, IsSh d y) : IsSh (d + 1) (.tup [.str kRow, .tup l])
  | eit {d : Nat} {l : List D} (n : l.length ≤ 100) (h : ∀ y ∈ l, IsSh d y) : IsSh (d + 1) (.tup [.str kEit, .tup l])
  | many {d : Nat} {p : D} (h : IsSh d p) : IsSh (d + 1) (.tup [.str kMany, p])
  | times {d : Nat} {p : D} {lo hi : Int} (h : IsSh d p) (h0 : 0 ≤ hi) (h4 : hi ≤ 4) : IsSh (d + 1) (.tup [.str kTim, p, .int lo, .int hi])
theorem IsSh.mono {d : Nat} {x : D} (h : IsSh d x) : ∀ {e : Nat}, d ≤ e → IsSh e x := by
  induction h with
  | one => intro e l; cases e with | zero => omega | succ e => exact .one
  | row n _ ih => intro e l; cases e with | zero => omega | succ e => exact .row n fun y hy => ih y hy (by omega)
  | eit n _ ih => intro e l; cases e with | zero => omega | succ e => exact .eit n fun y hy => ih y hy (by omega)
  | many _ ih => intro e l; cases e with | zero => omega | succ e => exact .many (ih (by omega))
  | times _ h0 h4 ih => intro e l; cases e with | zero => omega | succ e => exact .times (ih (by omega)) h0 h4
theorem IsSh.lo {d : Nat} {x : D} (h : IsSh d x) (n : Nat) : x.lo n = true := by
  induction h with
  | one => rfl
  | row _ _ ih => simp; exact loL_of fun y hy => ih y hy
  | eit _ _ ih => simp; exact loL_of fun y hy => ih y hy
  | many _ ih => simp [ih]
  | times _ _ _ ih => simp [ih]
def innerD : D → List D
  | .tup [.str s, y] => if s = kOne then [] else if s = kRow ∨ s = kEit then (match y with | .tup l => l | _ => []) else [y]
  | .tup [.str _, y, _, _] => [y]
  | _ => []
theorem innerD_one {s : List Nat} : innerD (.tup [.str kOne, .str s]) = [] := rfl
theorem innerD_row {l : List D} : innerD (.tup [.str kRow, .tup l]) = l := rfl
theorem innerD_eit {l : List D} : innerD (.tup [.str kEit, .tup l]) = l := rfl
theorem innerD_many {p : D} : innerD (.tup [.str kMany, p]) = [p] := rfl
theorem innerD_times {p : D} {lo hi : Int} : innerD (.tup [.str kTim, p, .int lo, .int hi]) = [p] := rfl
theorem IsSh.inner {d : Nat} {x : D} (h : IsSh (d + 1) x) : (innerD x).length ≤ 100 ∧ ∀ y ∈ innerD x, IsSh d y := by
  cases h with
  | one => exact ⟨by rw [innerD_one]; simp, by rw [innerD_one]; simp⟩
  | row n h => exact ⟨n, h⟩
  | eit n h => exact ⟨n, h⟩
  | many h => exact ⟨by rw [innerD_many]; simp, by rw [innerD_many]; simpa using h⟩
  | times h => exact ⟨by rw [innerD_times]; simp, by rw [innerD_times]; simpa using h⟩
def weightD : Nat → D → Int
  | 0, _ => 0
  | d + 1, x => match x with
    | .tup [.str s, y] => if s = kOne then 1 else ((innerD (.tup [.str s, y])).map (weightD d)).sum
    | .tup [.str s, y, lo, .int hi] => hi * ((innerD (.tup [.str s, y, lo, .int hi])).map (weightD d)).sum
    | _ => 0
def partsD : Nat → D → List D
  | 0, _ => []
  | d + 1, x => x :: ((innerD x).map (partsD d)).flatten
theorem t0 {l : List D} {d : D} (h : IH) (e : l[0]? = some d) : dIx (.tup l) (.int 0) h = .ok d h := dIx_seq (xs := l) rfl (by omega) e
theorem t1 {l : List D} {d : D} (h : IH) (e : l[1]? = some d) : dIx (.tup l) (.int 1) h = .ok d h := dIx_seq (xs := l) rfl (by omega) e
theorem t3 {l : List D} {d : D} (h : IH) (e : l[3]? = some d) : dIx (.tup l) (.int 3) h = .ok d h := dIx_seq (xs := l) rfl (by omega) e
theorem str_in (h : IH) (a : List Nat) : dIn false (.str a) (.tup [.str kRow, .str kEit]) h = .ok (.bl (decide (a = kRow) || decide (a = kEit))) h := by
  rw [dIn_pl (ys := [.str kRow, .str kEit]) rfl rfl (by simp)]
  simp
theorem lOne : ([111, 110, 101] : List Nat) = kOne := rfl
theorem lRow : ([114, 111, 119] : List Nat) = kRow := rfl
theorem lEit : ([101, 105, 116, 104, 101, 114] : List Nat) = kEit := rfl
theorem lTim : ([116, 105, 109, 101, 115] : List Nat) = kTim := rfl
theorem inner_call {d : Nat} {x : D} (s : IsSh d x) (h : IH) : callC 1 m_inner [x] h = .ok (.tup (innerD x)) h := by
  refine callC_same rfl ?_
  have si := str_in h
  unfold m_inner
  rw [lOne, lRow, lEit]
  cases s with
  | one =>
    rename_i s
    rw [innerD_one]
    simp [t0 h (l := [.str kOne, .str s]) rfl]
  | row n hh =>
    rename_i l
    rw [innerD_row]
    simp [t0 h (l := [.str kRow, .tup l]) rfl, t1 h (l := [.str kRow, .tup l]) rfl, si]
  | eit n hh =>
    rename_i l
    rw [innerD_eit]
    simp [t0 h (l := [.str kEit, .tup l]) rfl, t1 h (l := [.str kEit, .tup l]) rfl, si]
  | many hh =>
    rename_i p
    rw [innerD_many]
    simp [t0 h (l := [.str kMany, p]) rfl, t1 h (l := [.str kMany, p]) rfl, si]
  | times hh h0 h4 =>
    rename_i p lo hi
    rw [innerD_times]
    simp [t0 h (l := [.str kTim, p, .int lo, .int hi]) rfl, t1 h (l := [.str kTim, p, .int lo, .int hi]) rfl, si]
theorem parts_sh : ∀ {d : Nat} {x : D}, IsSh d x → ∀ y ∈ partsD d x, ∃ e, e ≤ d ∧ IsSh e y
  | 0, _, s, _, _ => by cases s
  | d + 1, x, s, y, hy => by
    have : partsD (d + 1) x = x :: ((innerD x).map (partsD d)).flatten := rfl
    rw [this] at hy
    rcases List.mem_cons.mp hy with rfl | hy
    · exact ⟨d + 1, Nat.le_refl _, s⟩
    · obtain ⟨l, hl, hy⟩ := List.mem_flatten.mp hy
      obtain ⟨z, hz, rfl⟩ := List.mem_map.mp hl
      obtain ⟨e, he, se⟩ := parts_sh (s.inner.2 z hz) y hy
      exact ⟨e, by omega, se⟩
theorem parts_lo {d : Nat} {x : D} (s : IsSh d x) (y : D) (hy : y ∈ partsD d x) (n : Nat) : y.lo n = true := by
  obtain ⟨e, _, se⟩ := parts_sh s y hy
  exact se.lo n
theorem flat_mem {f : D → List D} : ∀ {l : List D} {y : D}, y ∈ l → (f y).length ≤ ((l.map f).flatten).length
  | [], _, h => by cases h
  | z :: l, y, h => by
    rw [List.map_cons, List.flatten_cons, List.length_append]
    rcases List.mem_cons.mp h with rfl | h
    · omega
    · have := flat_mem (f := f) h
      omega
end NR

set_option Elab.async false
set_option linter.all false
set_option maxRecDepth 100000
set_option maxHeartbeats 4000000
namespace NR
open PySem PySem.Spec PyProof.Rows L2
mutual
def Sh.enc : Sh → D
  | .one s => .tup [.str kOne, .str s]
  | .row l => .tup [.str kRow, .tup (Sh.encs l)]
  | .eit l => .tup [.str kEit, .tup (Sh.encs l)]
  | .many s => .tup [.str kMany, s.enc]
  | .tim s lo hi => .tup [.str kTim, s.enc, .int (lo : Nat), .int (hi : Nat)]
def Sh.encs : List Sh → List D
  | [] => []
  | s :: l => s.enc :: Sh.encs l
end
inductive ShD : Nat → Sh → Prop
  | one {d : Nat} {s : List Nat} : ShD (d + 1) (.one s)
  | row {d : Nat} {l : List Sh} (h : ∀ y ∈ l, ShD d y) (n : l.length ≤ 6) : ShD (d + 1) (.row l)
  | eit {d : Nat} {l : List Sh} (h : ∀ y ∈ l, ShD d y) (n : l.length ≤ 6) : ShD (d + 1) (.eit l)
  | many {d : Nat} {s : Sh} (h : ShD d s) : ShD (d + 1) (.many s)
  | tim {d : Nat} {s : Sh} {lo hi : Nat} (h : ShD d s) (lh : lo ≤ hi) (h4 : hi ≤ 4) : ShD (d + 1) (.tim s lo hi)
/-- what is known of rows, firsts and lasts behind a laying of w places -/
structure SpR (w : Nat) (bg en : Nat → Bool) (fo : Nat → Nat → Bool) (rows rows' : List (List Nat)) (F L : List Nat) (B : Nat) : Prop where
  len : rows'.length = rows.length + w
  old : ∀ i, i < rows.length → rows'[i]? = rows[i]?
  new : ∀ i w', rows.length ≤ i → rows'[i]? = some w' → ∀ q, q ∈ w' ↔ fo i q = true
  hF : ∀ q, q ∈ F ↔ bg q = true
  hL : ∀ q, q ∈ L ↔ en q = true
  bF : F.length ≤ B
  bL : L.length ≤ B
def Sp (sh : Sh) (rows rows' : List (List Nat)) (F L : List Nat) (B : Nat) : Prop := SpR sh.wt (fun q => sh.bg q (rows.length - 1)) (fun q => sh.en q (rows.length - 1)) (fun p q => sh.fo p q (rows.length - 1)) rows rows' F L B
/-- the walk's claim for one shape -/
def LaidOk (n d : Nat) (sh : Sh) : Prop := ∀ (H : IH) (p a b : Nat) (mk : List (List Nat)) (rs : List Nat) (rows : List (List Nat)), Pl H p a b mk rs rows → RowsOk rows → 1 ≤ rows.length → rows.length + sh.wt ≤ 900 → sh.wt ≤ 10 →
  ∃ (H' : IH) (f l : D) (F L rs' : List Nat) (rows' : List (List Nat)), callC 2 (m_laid n) [.ref p, sh.enc] H = .ok (.tup [f, l, .bl sh.em]) H' ∧ LR H H' p a b (mk ++ sh.mk) rs rs' rows' f l F L ∧ Fsh H f ∧ Fsh H l ∧ Sp sh rows rows' F L (sh.wt * sh.wt)
section
variable {H H' : IH} {p a b : Nat} {mk : List (List Nat)} {rs rs' : List Nat} {rows rows' : List (List Nat)}
theorem ix0 {h : IH} {x : D} {l : List D} : dIx (.tup (x :: l)) (.int 0) h = .ok x h := dIx_seq (xs := x :: l) rfl (by omega) rfl
theorem ix1 {h : IH} {x y : D} {l : List D} : dIx (.tup (x :: y :: l)) (.int 1) h = .ok y h := dIx_seq (xs := x :: y :: l) rfl (by omega) rfl
theorem ix2 {h : IH} {x y z : D} {l : List D} : dIx (.tup (x :: y :: z :: l)) (.int 2) h = .ok z h := dIx_seq (xs := x :: y :: z :: l) rfl (by omega) rfl
theorem ix3 {h : IH} {x y z u : D} {l : List D} : dIx (.tup (x :: y :: z :: u :: l)) (.int 3) h = .ok u h := dIx_seq (xs := x :: y :: z :: u :: l) rfl (by omega) rfl
theorem one_laid (n d : Nat) (s : List Nat) : LaidOk (n + 1) d (.one s) := fun H p a b mk rs rows P ok r1 rw_ w10 => by
  have rw_ : rows.length + 1 ≤ 900 := rw_
  obtain ⟨H1, e1, P1, f1, l1⟩ := lay_call P (by omega) (s := s)
  have ok1 : RowsOk (rows ++ [[]]) := fun w hw => by
    rcases List.mem_append.mp hw with hw | hw
    · exact ok w hw
    · rw [List.mem_singleton] at hw
      subst hw
      exact ⟨by simp, by simp⟩
  have P2 : Pl (H1 ++ [.lst [nD rows.length]]) p a b (mk ++ [s]) (rs ++ [H.length]) (rows ++ [[]]) := P1.push
  have hf : LsP (H1 ++ [.lst [nD rows.length]]) a b (rs ++ [H.length]) (.ref H1.length) [rows.length] := LsP.new P1
  have hl : LsP (H1 ++ [.lst [nD rows.length]] ++ [.lst [nD rows.length]]) a b (rs ++ [H.length]) (.ref (H1 ++ [Cell.lst [nD rows.length]]).length) [rows.length] := LsP.new P2
  have R : LR H (H1 ++ [.lst [nD rows.length]] ++ [.lst [nD rows.length]]) p a b (mk ++ Sh.mk (.one s)) rs (rs ++ [H.length]) (rows ++ [[]]) (.ref H1.length) (.ref (H1 ++ [Cell.lst [nD rows.length]]).length) [rows.length] [rows.length] := ⟨P2.push, ok1, ⟨[H.length], rfl, by simp⟩, (f1.trans (FrP.push (g := [.lst [nD rows.length]])) ⟨[H.length], rfl, by simp⟩).trans (FrP.push (rs := rs ++ [H.length])) ⟨[H.length], rfl, by simp⟩, hf.keep FrP.push Ext2.refl, hl⟩
  have ins_ : insAt "Plan" H (.ref p) = some (plF a b) := insAt_ref P.pa
  have nl : noLook "lay" (plF a b) = true := rfl
  have ev : m_laid (n + 1) [.ref p, Sh.enc (.one s)] H = .ok (.tup [.ref H1.length, .ref (H1 ++ [Cell.lst [nD rows.length]]).length, .bl (Sh.em (.one s))]) (H1 ++ [.lst [nD rows.length]] ++ [.lst [nD rows.length]]) := by
    rw [m_laid_succ]
    generalize plF a b = FS at *
    unfold B_laid Sh.enc kOne nD Sh.em
    simp [ix0, ix1, ins_, nl, e1, newL]
  obtain ⟨H2, e2, R2⟩ := R.call (k := 2) P rfl ev
  refine ⟨H2, _, _, _, _, _, _, e2, R2, ⟨_, rfl, by omega⟩, ⟨_, rfl, by simp; omega⟩, by simp [Sh.wt], fun i hi => List.getElem?_append_left hi, fun i w' hi hw q => ?_, fun q => ?_, fun q => ?_, ?_, ?_⟩
  · have il := (List.getElem?_eq_some_iff.mp hw).1
    rw [List.length_append, List.length_singleton] at il
    have : i = rows.length := by omega
    subst this
    rw [List.getElem?_append_right (Nat.le_refl _), Nat.sub_self] at hw
    cases hw
    simp [Sh.fo]
  · show q ∈ [rows.length] ↔ inR (rows.length - 1) 1 q = true
    rw [inR_iff, List.mem_singleton]
    omega
  · show q ∈ [rows.length] ↔ inR (rows.length - 1) 1 q = true
    rw [inR_iff, List.mem_singleton]
    omega
  · exact Nat.le_refl 1
  · exact Nat.le_refl 1
end
end NR

set_option Elab.async false
set_option linter.all false
set_option maxRecDepth 100000
set_option maxHeartbeats 4000000
namespace NR
open PySem PySem.Spec PyProof.Rows L2
section
variable {H0 H H' : IH} {p a b : Nat} {mk0 mk : List (List Nat)} {rs0 rs rs' : List Nat} {rows0 rows rows' : List (List Nat)} {f l : D} {F L : List Nat} {E : Bool} {d n : Nat} {s : Sh}
/-- parts laid one behind the other, so far -/
structure RT (H0 H : IH) (p a b : Nat) (mk : List (List Nat)) (rs0 rs : List Nat) (rows0 rows : List (List Nat)) (f l : D) (F L : List Nat) : Prop extends LR H0 H p a b mk rs0 rs rows f l F L where
  old : ∀ i, i < rows0.length → rows[i]? = rows0[i]?
  ge : rows0.length ≤ rows.length
  Lb : ∀ q ∈ L, rows0.length ≤ q ∧ q < rows.length
  Fb : ∀ q ∈ F, q < rows.length
  gf : Fsh H0 f
  gl : Fsh H0 l
theorem LR.trans {H1 : IH} {mk1 : List (List Nat)} {rs1 : List Nat} {rows1 : List (List Nat)} {f1 l1 : D} {F1 L1 : List Nat} (R : LR H0 H p a b mk rs0 rs rows f l F L) (S : LR H H1 p a b mk1 rs rs1 rows1 f1 l1 F1 L1) : LR H0 H1 p a b mk1 rs0 rs1 rows1 f1 l1 F1 L1 ∧ LsP H1 a b rs1 f F ∧ LsP H1 a b rs1 l L :=
  ⟨⟨S.P, S.ok, R.ex.trans R.fr.1 S.ex, R.fr.trans S.fr R.ex, S.hf, S.hl⟩, R.hf.keep S.fr S.ex, R.hl.keep S.fr S.ex⟩
/-- one part more -/
theorem row_turn (T : RT H0 H p a b mk rs0 rs rows0 rows f l F L) (r1 : 1 ≤ rows.length) (S : LaidOk n d s) (rw_ : rows.length + s.wt ≤ 900) (w10 : s.wt ≤ 10) (Fl : F.length ≤ 5000000) (Ll : L.length ≤ 5000000) (M : Nat) (hM : s.wt ≤ M) (Bd : M * s.wt ≤ 5000000) :
    ∃ (H' : IH) (f' l' : D) (F' L' rs' : List Nat) (rows' : List (List Nat)) (H1 : IH) (f1 l1 : D), callC 2 (m_laid n) [.ref p, s.enc] H = .ok (.tup [f1, l1, .bl s.em]) H1 ∧ callC 3 m_in_turn [.ref p, .tup [f, l, .bl E], .tup [f1, l1, .bl s.em]] H1 = .ok (.tup [f', l', .bl (E && s.em)]) H' ∧
      RT H0 H' p a b (mk ++ s.mk) rs0 rs' rows0 rows' f' l' F' L' ∧ rows'.length = rows.length + s.wt ∧
      (∀ i w', rows0.length ≤ i → rows'[i]? = some w' → ∀ q, q ∈ w' ↔ (∃ w, rows[i]? = some w ∧ q ∈ w) ∨ s.fo i q (rows.length - 1) = true ∨ (i ∈ L ∧ s.bg q (rows.length - 1) = true)) ∧
      (∀ q, q ∈ F' ↔ q ∈ F ∨ (E = true ∧ s.bg q (rows.length - 1) = true)) ∧ (∀ q, q ∈ L' ↔ (s.em = true ∧ q ∈ L) ∨ s.en q (rows.length - 1) = true) ∧ F'.length ≤ F.length + M * s.wt ∧ L'.length ≤ L.length + M * s.wt ∧ Fsh H l' ∧ (f' = f ∨ Fsh H f') ∧ FrP H H' a b rs ∧ Ext2 H rs rs' := by
  obtain ⟨H1, f1, l1, F1, L1, rs1, rows1, e1, R1, g1, g2, sp⟩ := S H p a b mk rs rows T.P T.ok r1 rw_ w10
  obtain ⟨R2, hf2, hl2⟩ := T.toLR.trans R1
  have len1 := sp.len
  have old1 := sp.old
  have new1 := sp.new
  have hF1 := sp.hF
  have hL1 := sp.hL
  have F1b : ∀ q ∈ F1, q < rows1.length := fun q hq => by
    have := Sh.bg_in ((hF1 q).mp hq)
    omega
  have L1b : ∀ q ∈ L1, rows.length ≤ q ∧ q < rows1.length := fun q hq => by
    have := Sh.en_in ((hL1 q).mp hq)
    omega
  have bF := Nat.le_trans sp.bF (Nat.mul_le_mul hM (Nat.le_refl s.wt))
  have bL := Nat.le_trans sp.bL (Nat.mul_le_mul hM (Nat.le_refl s.wt))
  obtain ⟨H2, rows2, f3, l3, e2, R3, lk2, gf3, gl3⟩ := in_turn_call (e := E) (e2 := s.em) R1.P R1.ok hf2 hl2 R1.hf R1.hl (fun i hi => by have := (T.Lb i hi).2; omega) (fun q hq => by have := F1b q hq; omega) (by omega) (by omega)
  obtain ⟨l2, lk⟩ := lk2
  refine ⟨H2, f3, l3, _, _, rs1, rows2, H1, f1, l1, e1, e2, ⟨(R2.trans R3).1, fun i hi => ?_, by have := T.ge; omega, fun q hq => ?_, fun q hq => ?_, ?_, ?_⟩, by omega, fun i w' hi hw q => ?_, fun q => ?_, fun q => ?_, ?_, ?_, ?_, ?_, ?_, ?_⟩
  · have ge := T.ge
    have hl2 : i < rows2.length := by omega
    obtain ⟨w, hw, _, hm⟩ := lk i _ (List.getElem?_eq_getElem hl2)
    have nL : i ∉ L := fun z => by have := (T.Lb i z).1; omega
    rw [List.getElem?_eq_getElem hl2, hm nL, ← hw, old1 i (by omega)]
    exact T.old i hi
  · have ge := T.ge
    split at hq
    · rcases List.mem_append.mp hq with hq | hq
      · have := T.Lb q hq
        omega
      · have := L1b q hq
        omega
    · have := L1b q hq
      omega
  · split at hq
    · rcases List.mem_append.mp hq with hq | hq
      · have := T.Fb q hq
        omega
      · have := F1b q hq
        omega
    · have := T.Fb q hq
      omega
  · have h01 : H0.length ≤ H1.length := Nat.le_trans T.fr.1 R1.fr.1
    rcases gf3 with z | ⟨m, z, z2⟩
    · rw [z]; exact T.gf
    · exact ⟨m, z, by omega⟩
  · have h0 : H0.length ≤ H.length := T.fr.1
    have h01 : H0.length ≤ H1.length := Nat.le_trans T.fr.1 R1.fr.1
    rcases gl3 with z | ⟨m, z, z2⟩
    · rw [z]
      obtain ⟨m, z, z2⟩ := g2
      exact ⟨m, z, by omega⟩
    · exact ⟨m, z, by omega⟩
  · obtain ⟨w, hw1, hm, _⟩ := lk i w' hw
    rw [hm]
    by_cases hir : i < rows.length
    · rw [old1 i hir] at hw1
      have nfo : ¬ s.fo i q (rows.length - 1) = true := fun z => by
        have := (Sh.fo_in z).1
        omega
      constructor
      · rintro (z | ⟨z1, z2⟩)
        · exact .inl ⟨w, hw1, z⟩
        · exact .inr (.inr ⟨z1, (hF1 q).mp z2⟩)
      · rintro (⟨v, z1, z2⟩ | z | ⟨z1, z2⟩)
        · rw [hw1] at z1
          cases z1
          exact .inl z2
        · exact absurd z nfo
        · exact .inr ⟨z1, (hF1 q).mpr z2⟩
    · have nw := new1 i w (by omega) hw1 q
      have nL : i ∉ L := fun z => hir (T.Lb i z).2
      have nr : rows[i]? = none := List.getElem?_eq_none (by omega)
      constructor
      · rintro (z | ⟨z1, _⟩)
        · exact .inr (.inl (nw.mp z))
        · exact absurd z1 nL
      · rintro (⟨v, z1, _⟩ | z | ⟨z1, _⟩)
        · rw [nr] at z1
          cases z1
        · exact .inl (nw.mpr z)
        · exact absurd z1 nL
  · cases E with
    | true =>
      rw [if_pos rfl, List.mem_append]
      have := hF1 q
      simp [this]
    | false => simp
  · cases s.em with
    | true =>
      rw [if_pos rfl, List.mem_append]
      have := hL1 q
      simp [this]
    | false =>
      have := hL1 q
      simp [this]
  · split
    · rw [List.length_append]; omega
    · omega
  · split
    · rw [List.length_append]; omega
    · omega
  · rcases gl3 with z | ⟨m, z, z2⟩
    · rw [z]; exact g2
    · have := R1.fr.1
      exact ⟨m, z, by omega⟩
  · rcases gf3 with z | ⟨m, z, z2⟩
    · exact .inl z
    · have := R1.fr.1
      exact .inr ⟨m, z, by omega⟩
  · exact R1.fr.trans R3.fr R1.ex
  · exact R1.ex
end
end NR

set_option Elab.async false
set_option linter.all false
set_option maxRecDepth 100000
set_option maxHeartbeats 4000000
namespace NR
open PySem PySem.Spec PyProof.Rows L2
section
variable {H0 H H' : IH} {p a b : Nat} {mk0 mk : List (List Nat)} {rs0 rs rs' : List Nat} {rows0 rows rows' : List (List Nat)} {f l : D} {F L : List Nat} {E : Bool} {d n : Nat} {s : Sh}
/-- what the rows hold behind a turn, from before it -/
theorem ex_turn {rows1 : List (List Nat)} {i q : Nat} (T : RT H0 H p a b mk rs0 rs rows0 rows f l F L) (r1 : 1 ≤ rows.length) (len1 : rows1.length = rows.length + s.wt) (tr : ∀ i w', rows0.length ≤ i → rows1[i]? = some w' → ∀ q, q ∈ w' ↔ (∃ w, rows[i]? = some w ∧ q ∈ w) ∨ s.fo i q (rows.length - 1) = true ∨ (i ∈ L ∧ s.bg q (rows.length - 1) = true)) (hi : rows0.length ≤ i) :
    (∃ w, rows1[i]? = some w ∧ q ∈ w) ↔ (∃ w, rows[i]? = some w ∧ q ∈ w) ∨ s.fo i q (rows.length - 1) = true ∨ (i ∈ L ∧ s.bg q (rows.length - 1) = true) := by
  by_cases h : i < rows1.length
  · have e := List.getElem?_eq_getElem h
    rw [← tr i _ hi e q]
    constructor
    · rintro ⟨w, h1, h2⟩
      rw [e] at h1
      cases h1
      exact h2
    · exact fun z => ⟨_, e, z⟩
  · have e : rows1[i]? = none := List.getElem?_eq_none (by omega)
    have e2 : rows[i]? = none := List.getElem?_eq_none (by omega)
    constructor
    · rintro ⟨w, h1, _⟩
      rw [e] at h1
      cases h1
    · rintro (⟨w, h1, _⟩ | z | ⟨z, _⟩)
      · rw [e2] at h1
        cases h1
      · have := (Sh.fo_in z).1
        omega
      · have := (T.Lb i z).2
        omega
theorem wts_le : ∀ {ss : List Sh} {t : Sh}, t ∈ ss → t.wt ≤ Sh.wts ss
  | [], t, h => by cases h
  | x :: ss, t, h => by
    show t.wt ≤ x.wt + Sh.wts ss
    rcases List.mem_cons.mp h with rfl | h
    · omega
    · have := wts_le h
      omega
theorem row_loop (M : Nat) {pts : D} {r_row r_eit r_many r_times : MF} : ∀ (ss : List Sh) (H : IH) (mk : List (List Nat)) (rs : List Nat) (rows : List (List Nat)) (f l : D) (F L : List Nat) (E : Bool) (x : Option D), RT H0 H p a b mk rs0 rs rows0 rows f l F L → 1 ≤ rows.length → (∀ s ∈ ss, LaidOk n d s) → (∀ s ∈ ss, s.wt ≤ M) → rows.length + Sh.wts ss ≤ 900 → Sh.wts ss ≤ 10 → F.length + M * Sh.wts ss ≤ 5000000 → L.length + M * Sh.wts ss ≤ 5000000 →
    ∃ (H' : IH) (f' l' : D) (F' L' rs' : List Nat) (rows' : List (List Nat)) (x' : Option D), forL (gSet 3) (b_laid_row_1 r_row r_eit r_many r_times (m_laid n)) (Sh.encs ss) [some (.ref p), some pts, some (.tup [f, l, .bl E]), x] H = .nx [some (.ref p), some pts, some (.tup [f', l', .bl (E && Sh.ems ss)]), x'] H' ∧
      RT H0 H' p a b (mk ++ Sh.mks ss) rs0 rs' rows0 rows' f' l' F' L' ∧ rows'.length = rows.length + Sh.wts ss ∧
      (∀ i w', rows0.length ≤ i → rows'[i]? = some w' → ∀ q, q ∈ w' ↔ (∃ w, rows[i]? = some w ∧ q ∈ w) ∨ Sh.fos i q ss (rows.length - 1) (decide (i ∈ L)) = true) ∧
      (∀ q, q ∈ F' ↔ q ∈ F ∨ (E = true ∧ Sh.bgs q ss (rows.length - 1) = true)) ∧ (∀ q, q ∈ L' ↔ Sh.ens q ss (rows.length - 1) (decide (q ∈ L)) = true) ∧ F'.length ≤ F.length + M * Sh.wts ss ∧ L'.length ≤ L.length + M * Sh.wts ss
  | [], H, mk, rs, rows, f, l, F, L, E, x, T, r1, S, hM, rw_, w10, Fl, Ll => by
    refine ⟨H, f, l, F, L, rs, rows, x, ?_, ?_, by simp [Sh.wts], fun i w' hi hw q => ?_, fun q => by simp [Sh.bgs], fun q => by simp [Sh.ens], Nat.le_add_right _ _, Nat.le_add_right _ _⟩
    · rw [show Sh.ems [] = true from rfl, Bool.and_true]
      rfl
    · rw [show Sh.mks [] = [] from rfl, List.append_nil]
      exact T
    · constructor
      · exact fun z => .inl ⟨w', hw, z⟩
      · rintro (⟨w, h1, h2⟩ | z)
        · rw [hw] at h1
          cases h1
          exact h2
        · cases z
  | s :: ss, H, mk, rs, rows, f, l, F, L, E, x, T, r1, S, hM, rw_, w10, Fl, Ll => by
    rw [show Sh.wts (s :: ss) = s.wt + Sh.wts ss from rfl] at rw_ w10 Fl Ll
    rw [Nat.mul_add] at Fl Ll
    obtain ⟨H2, f2, l2, F2, L2, rs2, rows2, H1, f1, l1, e1, e2, T2, len2, tr2, hF2, hL2, bF2, bL2, _, _, _, _⟩ := row_turn (E := E) T r1 (S s List.mem_cons_self) (by omega) (by omega) (by omega) (by omega) M (hM s List.mem_cons_self) (by omega)
    obtain ⟨H3, f3, l3, F3, L3, rs3, rows3, x3, e3, T3, len3, tr3, hF3, hL3, bF3, bL3⟩ := row_loop M (pts := pts) (r_row := r_row) (r_eit := r_eit) (r_many := r_many) (r_times := r_times) ss H2 _ rs2 rows2 f2 l2 F2 L2 (E && s.em) (some s.enc) T2 (by omega) (fun t ht => S t (List.mem_cons_of_mem _ ht)) (fun t ht => hM t (List.mem_cons_of_mem _ ht)) (by omega) (by omega) (by omega) (by omega)
    have off : rows2.length - 1 = rows.length - 1 + s.wt := by omega
    rw [off] at tr3 hF3 hL3
    have dL : ∀ i, decide (i ∈ L2) = (decide (i ∈ L) && s.em || s.en i (rows.length - 1)) := fun i => by
      rw [Bool.eq_iff_iff]
      simp only [decide_eq_true_eq, Bool.or_eq_true, Bool.and_eq_true]
      rw [hL2]
      constructor
      · rintro (z | z)
        · exact .inl ⟨z.2, z.1⟩
        · exact .inr z
      · rintro (z | z)
        · exact .inl ⟨z.2, z.1⟩
        · exact .inr z
    refine ⟨H3, f3, l3, F3, L3, rs3, rows3, x3, ?_, ?_, ?_, fun i w' hi hw q => ?_, fun q => ?_, fun q => ?_, ?_, ?_⟩
    · rw [show Sh.encs (s :: ss) = s.enc :: Sh.encs ss from rfl, forL_cons (e1 := [some (.ref p), some pts, some (.tup [f, l, .bl E]), some s.enc]) rfl]
      have tn : b_laid_row_1 r_row r_eit r_many r_times (m_laid n) [some (.ref p), some pts, some (.tup [f, l, .bl E]), some s.enc] H = .nx [some (.ref p), some pts, some (.tup [f2, l2, .bl (E && s.em)]), some s.enc] H2 := by
        unfold b_laid_row_1
        simp [e1, e2]
      rw [tn, on_nx, show Sh.ems (s :: ss) = (s.em && Sh.ems ss) from rfl, ← Bool.and_assoc]
      exact e3
    · rw [show Sh.mks (s :: ss) = s.mk ++ Sh.mks ss from rfl, ← List.append_assoc]
      exact T3
    · rw [show Sh.wts (s :: ss) = s.wt + Sh.wts ss from rfl]
      omega
    · rw [tr3 i w' hi hw q, ex_turn T r1 len2 tr2 hi, dL]
      show _ ↔ _ ∨ (s.fo i q (rows.length - 1) || (decide (i ∈ L) && s.bg q (rows.length - 1)) || Sh.fos i q ss (rows.length - 1 + s.wt) (decide (i ∈ L) && s.em || s.en i (rows.length - 1))) = true
      simp only [Bool.or_eq_true, Bool.and_eq_true, decide_eq_true_eq]
      constructor
      · rintro ((z | z | z) | z)
        · exact .inl z
        · exact .inr (.inl (.inl z))
        · exact .inr (.inl (.inr z))
        · exact .inr (.inr z)
      · rintro (z | (z | z) | z)
        · exact .inl (.inl z)
        · exact .inl (.inr (.inl z))
        · exact .inl (.inr (.inr z))
        · exact .inr z
    · rw [hF3 q, hF2 q]
      show _ ↔ _ ∨ (E = true ∧ (s.bg q (rows.length - 1) || (s.em && Sh.bgs q ss (rows.length - 1 + s.wt))) = true)
      simp only [Bool.or_eq_true, Bool.and_eq_true]
      constructor
      · rintro ((z | z) | z)
        · exact .inl z
        · exact .inr ⟨z.1, .inl z.2⟩
        · exact .inr ⟨z.1.1, .inr ⟨z.1.2, z.2⟩⟩
      · rintro (z | ⟨z1, z | z⟩)
        · exact .inl (.inl z)
        · exact .inl (.inr ⟨z1, z⟩)
        · exact .inr ⟨⟨z1, z.1⟩, z.2⟩
    · rw [hL3 q, dL]
      rfl
    · rw [show Sh.wts (s :: ss) = s.wt + Sh.wts ss from rfl, Nat.mul_add]
      omega
    · rw [show Sh.wts (s :: ss) = s.wt + Sh.wts ss from rfl, Nat.mul_add]
      omega
theorem RT.start (P : Pl H p a b mk rs rows) (ok : RowsOk rows) : RT H (H ++ [.lst []] ++ [.lst []]) p a b mk rs rs rows rows (.ref H.length) (.ref (H ++ [Cell.lst []]).length) [] [] := ⟨⟨P.push.push, ok, Ext2.refl, (FrP.push (g := [.lst []])).trans FrP.push Ext2.refl, (LsP.new (xs := []) P).keep FrP.push Ext2.refl, LsP.new (xs := []) P.push⟩, fun _ _ => rfl, Nat.le_refl _, by simp, by simp, ⟨_, rfl, Nat.le_refl _⟩, ⟨_, rfl, by simp⟩⟩
theorem row_laid {ss : List Sh} (hd : d ≤ 5) (S : ∀ s ∈ ss, LaidOk n d s) : LaidOk (n + 2) (d + 1) (.row ss) := fun H p a b mk rs rows P ok r1 rw_ w10 => by
  have rw_ : rows.length + Sh.wts ss ≤ 900 := rw_
  have w10 : Sh.wts ss ≤ 10 := w10
  have bd : Sh.wts ss * Sh.wts ss ≤ 1000000 := Nat.le_trans (Nat.mul_le_mul w10 w10) (by omega)
  obtain ⟨H3, f3, l3, F3, L3, rs3, rows3, x3, e3, T3, len3, tr3, hF3, hL3, bF3, bL3⟩ := row_loop (Sh.wts ss) (pts := .tup (Sh.encs ss)) (r_row := m_laid_row n) (r_eit := m_laid_either n) (r_many := m_laid_many n) (r_times := m_laid_times n) ss _ mk rs rows _ _ [] [] true none (RT.start P ok) r1 S (fun t ht => wts_le ht) rw_ w10 (by simp; omega) (by simp; omega)
  rw [Bool.true_and] at e3
  have ev : m_laid_row (n + 1) [.ref p, .tup (Sh.encs ss)] H = .ok (.tup [f3, l3, .bl (Sh.ems ss)]) H3 := by
    rw [m_laid_row_succ]
    unfold B_laid_row
    rw [ap_fnM]
    simp only [List.map_cons, List.map_nil, List.length_cons, List.length_nil, List.cons_append, List.nil_append, Nat.reduceAdd, Nat.reduceSub, List.replicate]
    refine stN (env2 := [some (.ref p), some (.tup (Sh.encs ss)), some (.tup [.ref H.length, .ref (H ++ [Cell.lst []]).length, .bl true]), none]) (h2 := H ++ [.lst []] ++ [.lst []]) (by simp [newL]) ?_
    refine stN ((for_st (ds := Sh.encs ss) (h2 := H ++ [.lst []] ++ [.lst []]) (by simp)).trans e3) ?_
    simp
  obtain ⟨H4, e4, R4⟩ := T3.toLR.call (k := 2) P rfl ev
  have ev5 : m_laid (n + 2) [.ref p, Sh.enc (.row ss)] H = .ok (.tup [f3, l3, .bl (Sh.em (.row ss))]) H4 := by
    rw [m_laid_succ]
    unfold B_laid Sh.enc kRow
    simp [ix0, ix1, e4, Sh.em]
  obtain ⟨H6, e6, R6⟩ := R4.call (k := 2) P rfl ev5
  refine ⟨H6, _, _, _, _, _, _, e6, R6, T3.gf, T3.gl, len3, T3.old, fun i w' hi hw q => ?_, fun q => ?_, fun q => ?_, ?_, ?_⟩
  · rw [tr3 i w' hi hw q]
    have : rows[i]? = none := List.getElem?_eq_none hi
    simp [this, Sh.fo]
  · rw [hF3 q]
    simp [Sh.bg]
  · rw [hL3 q]
    simp [Sh.en]
  · show _ ≤ Sh.wts ss * Sh.wts ss
    rw [List.length_nil] at bF3
    omega
  · show _ ≤ Sh.wts ss * Sh.wts ss
    rw [List.length_nil] at bL3
    omega
end
end NR

set_option Elab.async false
set_option linter.all false
set_option maxRecDepth 100000
set_option maxHeartbeats 4000000
namespace NR
open PySem PySem.Spec PyProof.Rows L2
section
variable {H0 H H' : IH} {p a b : Nat} {mk0 mk : List (List Nat)} {rs0 rs rs' : List Nat} {rows0 rows rows' : List (List Nat)} {f l : D} {F L : List Nat} {E : Bool} {d n : Nat} {s : Sh}
theorem many_laid (S : LaidOk n d s) : LaidOk (n + 2) (d + 1) (.many s) := fun H p a b mk rs rows P ok r1 rw_ w10 => by
  have rw_ : rows.length + s.wt ≤ 900 := rw_
  have w10 : s.wt ≤ 10 := w10
  obtain ⟨H1, f1, l1, F1, L1, rs1, rows1, e1, R1, g1, g2, sp⟩ := S H p a b mk rs rows P ok r1 rw_ w10
  have len1 := sp.len
  have old1 := sp.old
  have new1 := sp.new
  have hF1 := sp.hF
  have hL1 := sp.hL
  have F1b : ∀ q ∈ F1, q < rows1.length := fun q hq => by
    have := Sh.bg_in ((hF1 q).mp hq)
    omega
  have L1b : ∀ q ∈ L1, rows.length ≤ q ∧ q < rows1.length := fun q hq => by
    have := Sh.en_in ((hL1 q).mp hq)
    omega
  obtain ⟨H2, rows2, ek, P2, ok2, lk, len2, fr2⟩ := link_call R1.P R1.ok R1.hl R1.hf (fun i hi => (L1b i hi).2) (fun q hq => by have := F1b q hq; omega)
  obtain ⟨l2, lk⟩ := lk
  have R2 : LR H H2 p a b (mk ++ s.mk) rs rs1 rows2 f1 l1 F1 L1 := ⟨P2, ok2, R1.ex, R1.fr.trans fr2 R1.ex, R1.hf.keep fr2 Ext2.refl, R1.hl.keep fr2 Ext2.refl⟩
  have ins_ : insAt "Plan" H1 (.ref p) = some (plF a b) := insAt_ref R1.P.pa
  have nl : noLook "link" (plF a b) = true := rfl
  have ev : m_laid_many (n + 1) [.ref p, s.enc] H = .ok (.tup [f1, l1, .bl true]) H2 := by
    rw [m_laid_many_succ]
    generalize plF a b = FS at *
    unfold B_laid_many
    rw [ap_fnM]
    simp only [List.map_cons, List.map_nil, List.length_cons, List.length_nil, List.cons_append, List.nil_append, Nat.reduceAdd, Nat.reduceSub, List.replicate]
    refine stN (env2 := [some (.ref p), some s.enc, some f1, some l1, some (.bl s.em)]) (h2 := H1) (by simp [e1, gSets]) ?_
    refine stN (env2 := [some (.ref p), some s.enc, some f1, some l1, some (.bl s.em)]) (h2 := H2) (by simp [ins_, nl, ek]) ?_
    simp
  obtain ⟨H4, e4, R4⟩ := R2.call (k := 2) P rfl ev
  have ev5 : m_laid (n + 2) [.ref p, Sh.enc (.many s)] H = .ok (.tup [f1, l1, .bl (Sh.em (.many s))]) H4 := by
    rw [m_laid_succ]
    unfold B_laid Sh.enc kMany
    simp [ix0, ix1, e4, Sh.em]
  obtain ⟨H6, e6, R6⟩ := R4.call (k := 2) P rfl ev5
  have bF := sp.bF
  have bL := sp.bL
  refine ⟨H6, _, _, _, _, _, _, e6, R6, g1, g2, l2.trans len1, fun i hi => ?_, fun i w' hi hw q => ?_, fun q => hF1 q, fun q => hL1 q, ?_, ?_⟩
  · have hl2 : i < rows2.length := by omega
    obtain ⟨w, hw, _, hm⟩ := lk i _ (List.getElem?_eq_getElem hl2)
    have nL : i ∉ L1 := fun z => by have := (L1b i z).1; omega
    rw [List.getElem?_eq_getElem hl2, hm nL, ← hw, old1 i (by omega)]
  · obtain ⟨w, hw1, hm, _⟩ := lk i w' hw
    rw [hm, new1 i w hi hw1 q, hF1, hL1]
    show _ ↔ (s.fo i q (rows.length - 1) || (s.en i (rows.length - 1) && s.bg q (rows.length - 1))) = true
    rw [Bool.or_eq_true, Bool.and_eq_true]
  · show _ ≤ s.wt * s.wt
    omega
  · show _ ≤ s.wt * s.wt
    omega
theorem Pl.setO {i : Nat} {ds : List D} {c : Cell} (P : Pl H p a b mk rs rows) (h : H[i]? = some (.lst ds)) (no : ¬ Own a b rs i) : Pl (H.set i c) p a b mk rs rows := by
  have pi := P.pn h
  refine ⟨by rw [List.getElem?_set_ne (Ne.symm pi)]; exact P.pa, by rw [List.getElem?_set_ne fun z => no (.inl z)]; exact P.ma, by rw [List.getElem?_set_ne fun z => no (.inr (.inl z))]; exact P.na, P.len, P.ml, fun j r w hr hw => ?_, P.nd, P.ab, P.ar, P.br⟩
  have : i ≠ r := fun z => by
    subst z
    exact no (.inr (.inr (List.mem_of_getElem? hr)))
  rw [List.getElem?_set_ne this]
  exact P.row j r w hr hw
theorem FrP.setN {i : Nat} {c : Cell} (f : FrP H H' a b rs) (h : H.length ≤ i) : FrP H (H'.set i c) a b rs := ⟨by rw [List.length_set]; exact f.1, fun j x hj no => by
  have := (List.getElem?_eq_some_iff.mp hj).1
  rw [List.getElem?_set_ne (by omega)]
  exact f.2 j x hj no⟩
/-- parts laid side by side, so far -/
structure RE (H0 H : IH) (p a b : Nat) (mk : List (List Nat)) (rs0 rs : List Nat) (rows0 rows : List (List Nat)) (cF cL : Nat) (F L : List Nat) : Prop where
  P : Pl H p a b mk rs rows
  ok : RowsOk rows
  ex : Ext2 H0 rs0 rs
  fr : FrP H0 H a b rs0
  hF : H[cF]? = some (.lst (F.map nD))
  hL : H[cL]? = some (.lst (L.map nD))
  nF : ¬ Own a b rs cF
  nL : ¬ Own a b rs cL
  fl : cF ≠ cL
  gF : H0.length ≤ cF
  gL : H0.length ≤ cL
  old : ∀ i, i < rows0.length → rows[i]? = rows0[i]?
  ge : rows0.length ≤ rows.length
theorem eit_turn {pts : D} {r_row r_eit r_many r_times : MF} {cF cL : Nat} (T : RE H0 H p a b mk rs0 rs rows0 rows cF cL F L) (r1 : 1 ≤ rows.length) (S : LaidOk n d s) (rw_ : rows.length + s.wt ≤ 900) (w10 : s.wt ≤ 10) (Fl : F.length ≤ 5000000) (Ll : L.length ≤ 5000000) (M : Nat) (hM : s.wt ≤ M) (Bd : M * s.wt ≤ 5000000) {x6 x7 x8 : Option D} :
    ∃ (H' : IH) (F1 L1 rs' : List Nat) (rows' : List (List Nat)) (y6 y7 y8 : Option D), b_laid_either_1 r_row r_eit r_many r_times (m_laid n) [some (.ref p), some pts, some (.ref cF), some (.ref cL), some (.bl E), some s.enc, x6, x7, x8] H = .nx [some (.ref p), some pts, some (.ref cF), some (.ref cL), some (.bl (E || s.em)), some s.enc, y6, y7, y8] H' ∧
      RE H0 H' p a b (mk ++ s.mk) rs0 rs' rows0 rows' cF cL (F ++ F1) (L ++ L1) ∧ Sp s rows rows' F1 L1 (M * s.wt) := by
  obtain ⟨H1, f1, l1, F1, L1, rs1, rows1, e1, R1, ⟨m1, rfl, g1⟩, ⟨m2, rfl, g2⟩, sp0⟩ := S H p a b mk rs rows T.P T.ok r1 rw_ w10
  have sp : Sp s rows rows1 F1 L1 (M * s.wt) := ⟨sp0.len, sp0.old, sp0.new, sp0.hF, sp0.hL, Nat.le_trans sp0.bF (Nat.mul_le_mul hM (Nat.le_refl s.wt)), Nat.le_trans sp0.bL (Nat.mul_le_mul hM (Nat.le_refl s.wt))⟩
  have bF := sp.bF
  have bL := sp.bL
  have hcF := (List.getElem?_eq_some_iff.mp T.hF).1
  have hcL := (List.getElem?_eq_some_iff.mp T.hL).1
  have kF : H1[cF]? = some (.lst (F.map nD)) := R1.fr.2 cF _ T.hF T.nF
  have kL : H1[cL]? = some (.lst (L.map nD)) := R1.fr.2 cL _ T.hL T.nL
  obtain ⟨new, rfl, hnew⟩ := R1.ex
  have nF1 : ¬ Own a b (rs ++ new) cF := by
    rintro (z | z | z)
    · exact T.nF (.inl z)
    · exact T.nF (.inr (.inl z))
    · rcases List.mem_append.mp z with z | z
      · exact T.nF (.inr (.inr z))
      · have := hnew _ z; omega
  have nL1 : ¬ Own a b (rs ++ new) cL := by
    rintro (z | z | z)
    · exact T.nL (.inl z)
    · exact T.nL (.inr (.inl z))
    · rcases List.mem_append.mp z with z | z
      · exact T.nL (.inr (.inr z))
      · have := hnew _ z; omega
  have h1 : H1[m1]? = some (.lst (F1.map nD)) := by
    rcases R1.hf with z | ⟨m, z, h, _⟩
    · cases z
    · cases z; exact h
  have h2 : H1[m2]? = some (.lst (L1.map nD)) := by
    rcases R1.hl with z | ⟨m, z, h, _⟩
    · cases z
    · cases z; exact h
  have a1 : dIAddL (.ref cF) (.ref m1) H1 = .ok (.ref cF) (H1.set cF (.lst ((F ++ F1).map nD))) := by
    rw [dIAddL_new (h' := []) kF h1 (by rw [List.length_map, List.length_map]; omega), List.map_append]
  have hcF1 := (List.getElem?_eq_some_iff.mp kF).1
  have kF2 : (H1.set cF (.lst ((F ++ F1).map nD)))[cF]? = some (.lst ((F ++ F1).map nD)) := List.getElem?_set_self hcF1
  have kL2 : (H1.set cF (.lst ((F ++ F1).map nD)))[cL]? = some (.lst (L.map nD)) := by rw [List.getElem?_set_ne T.fl]; exact kL
  have h22 : (H1.set cF (.lst ((F ++ F1).map nD)))[m2]? = some (.lst (L1.map nD)) := by rw [List.getElem?_set_ne (by omega)]; exact h2
  have P2 : Pl (H1.set cF (.lst ((F ++ F1).map nD))) p a b (mk ++ s.mk) (rs ++ new) rows1 := R1.P.setO kF nF1
  have fr2 : FrP H0 (H1.set cF (.lst ((F ++ F1).map nD))) a b rs0 := (T.fr.trans R1.fr T.ex).setN T.gF
  generalize H1.set cF (.lst ((F ++ F1).map nD)) = H2 at *
  have a2 : dIAddL (.ref cL) (.ref m2) H2 = .ok (.ref cL) (H2.set cL (.lst ((L ++ L1).map nD))) := by
    rw [dIAddL_new (h' := []) kL2 h22 (by rw [List.length_map, List.length_map]; omega), List.map_append]
  have len1 := sp.len
  have old1 := sp.old
  refine ⟨H2.set cL (.lst ((L ++ L1).map nD)), F1, L1, rs ++ new, rows1, some (.ref m1), some (.ref m2), some (.bl s.em), ?_, ⟨P2.setO kL2 nL1, R1.ok, T.ex.trans T.fr.1 ⟨new, rfl, hnew⟩, fr2.setN T.gL, by rw [List.getElem?_set_ne (Ne.symm T.fl)]; exact kF2, List.getElem?_set_self (List.getElem?_eq_some_iff.mp kL2).1, nF1, nL1, T.fl, T.gF, T.gL, fun i hi => by rw [old1 i (by have := T.ge; omega)]; exact T.old i hi, by have := T.ge; omega⟩, sp⟩
  generalize H2.set cL (.lst ((L ++ L1).map nD)) = H3 at *
  unfold b_laid_either_1
  refine stS (env2 := [some (.ref p), some pts, some (.ref cF), some (.ref cL), some (.bl E), some s.enc, some (.ref m1), some (.ref m2), some (.bl s.em)]) (h2 := H1) (by simp [e1, gSets]) ?_
  refine stS (env2 := [some (.ref p), some pts, some (.ref cF), some (.ref cL), some (.bl E), some s.enc, some (.ref m1), some (.ref m2), some (.bl s.em)]) (h2 := H2) (by simp [a1]) ?_
  refine stS (env2 := [some (.ref p), some pts, some (.ref cF), some (.ref cL), some (.bl E), some s.enc, some (.ref m1), some (.ref m2), some (.bl s.em)]) (h2 := H3) (by simp [a2]) ?_
  cases E <;> simp
end
end NR

set_option Elab.async false
set_option linter.all false
set_option maxRecDepth 100000
set_option maxHeartbeats 4000000
namespace NR
open PySem PySem.Spec PyProof.Rows L2
section
variable {H0 H H' : IH} {p a b : Nat} {mk0 mk : List (List Nat)} {rs0 rs rs' : List Nat} {rows0 rows rows' : List (List Nat)} {f l : D} {F L : List Nat} {E : Bool} {d n : Nat} {s : Sh}
theorem eit_loop (M : Nat) {pts : D} {r_row r_eit r_many r_times : MF} {cF cL : Nat} : ∀ (ss : List Sh) (H : IH) (mk : List (List Nat)) (rs : List Nat) (rows : List (List Nat)) (F L : List Nat) (E : Bool) (x5 x6 x7 x8 : Option D), RE H0 H p a b mk rs0 rs rows0 rows cF cL F L → 1 ≤ rows.length → (∀ s ∈ ss, LaidOk n d s) → (∀ s ∈ ss, s.wt ≤ M) → rows.length + Sh.wts ss ≤ 900 → Sh.wts ss ≤ 10 → F.length + M * Sh.wts ss ≤ 5000000 → L.length + M * Sh.wts ss ≤ 5000000 →
    ∃ (H' : IH) (F' L' rs' : List Nat) (rows' : List (List Nat)) (y5 y6 y7 y8 : Option D), forL (gSet 5) (b_laid_either_1 r_row r_eit r_many r_times (m_laid n)) (Sh.encs ss) [some (.ref p), some pts, some (.ref cF), some (.ref cL), some (.bl E), x5, x6, x7, x8] H = .nx [some (.ref p), some pts, some (.ref cF), some (.ref cL), some (.bl (E || Sh.emo ss)), y5, y6, y7, y8] H' ∧
      RE H0 H' p a b (mk ++ Sh.mks ss) rs0 rs' rows0 rows' cF cL F' L' ∧ rows'.length = rows.length + Sh.wts ss ∧
      (∀ i w', rows0.length ≤ i → rows'[i]? = some w' → ∀ q, q ∈ w' ↔ (∃ w, rows[i]? = some w ∧ q ∈ w) ∨ Sh.foo i q ss (rows.length - 1) = true) ∧
      (∀ q, q ∈ F' ↔ q ∈ F ∨ Sh.bgo q ss (rows.length - 1) = true) ∧ (∀ q, q ∈ L' ↔ q ∈ L ∨ Sh.eno q ss (rows.length - 1) = true) ∧ F'.length ≤ F.length + M * Sh.wts ss ∧ L'.length ≤ L.length + M * Sh.wts ss
  | [], H, mk, rs, rows, F, L, E, x5, x6, x7, x8, T, r1, S, hM, rw_, w10, Fl, Ll => by
    refine ⟨H, F, L, rs, rows, x5, x6, x7, x8, ?_, ?_, by simp [Sh.wts], fun i w' hi hw q => ?_, fun q => by simp [Sh.bgo], fun q => by simp [Sh.eno], Nat.le_add_right _ _, Nat.le_add_right _ _⟩
    · rw [show Sh.emo [] = false from rfl, Bool.or_false]
      rfl
    · rw [show Sh.mks [] = [] from rfl, List.append_nil]
      exact T
    · constructor
      · exact fun z => .inl ⟨w', hw, z⟩
      · rintro (⟨w, h1, h2⟩ | z)
        · rw [hw] at h1
          cases h1
          exact h2
        · cases z
  | s :: ss, H, mk, rs, rows, F, L, E, x5, x6, x7, x8, T, r1, S, hM, rw_, w10, Fl, Ll => by
    rw [show Sh.wts (s :: ss) = s.wt + Sh.wts ss from rfl] at rw_ w10 Fl Ll
    rw [Nat.mul_add] at Fl Ll
    obtain ⟨H2, F1, L1, rs2, rows2, y6, y7, y8, e2, T2, sp⟩ := eit_turn (E := E) (pts := pts) (r_row := r_row) (r_eit := r_eit) (r_many := r_many) (r_times := r_times) (x6 := x6) (x7 := x7) (x8 := x8) T r1 (S s List.mem_cons_self) (by omega) (by omega) (by omega) (by omega) M (hM s List.mem_cons_self) (by omega)
    have bF := sp.bF
    have bL := sp.bL
    have len2 := sp.len
    have old2 := sp.old
    have new2 := sp.new
    obtain ⟨H3, F3, L3, rs3, rows3, z5, z6, z7, z8, e3, T3, len3, tr3, hF3, hL3, bF3, bL3⟩ := eit_loop M (pts := pts) (r_row := r_row) (r_eit := r_eit) (r_many := r_many) (r_times := r_times) ss H2 _ rs2 rows2 _ _ (E || s.em) (some s.enc) y6 y7 y8 T2 (by omega) (fun t ht => S t (List.mem_cons_of_mem _ ht)) (fun t ht => hM t (List.mem_cons_of_mem _ ht)) (by omega) (by omega) (by rw [List.length_append]; omega) (by rw [List.length_append]; omega)
    have off : rows2.length - 1 = rows.length - 1 + s.wt := by omega
    rw [off] at tr3 hF3 hL3
    refine ⟨H3, F3, L3, rs3, rows3, z5, z6, z7, z8, ?_, ?_, ?_, fun i w' hi hw q => ?_, fun q => ?_, fun q => ?_, ?_, ?_⟩
    · rw [show Sh.encs (s :: ss) = s.enc :: Sh.encs ss from rfl, forL_cons (e1 := [some (.ref p), some pts, some (.ref cF), some (.ref cL), some (.bl E), some s.enc, x6, x7, x8]) rfl, e2, on_nx, show Sh.emo (s :: ss) = (s.em || Sh.emo ss) from rfl, ← Bool.or_assoc]
      exact e3
    · rw [show Sh.mks (s :: ss) = s.mk ++ Sh.mks ss from rfl, ← List.append_assoc]
      exact T3
    · rw [show Sh.wts (s :: ss) = s.wt + Sh.wts ss from rfl]
      omega
    · rw [tr3 i w' hi hw q]
      show _ ↔ _ ∨ (s.fo i q (rows.length - 1) || Sh.foo i q ss (rows.length - 1 + s.wt)) = true
      rw [Bool.or_eq_true]
      have key : (∃ w, rows2[i]? = some w ∧ q ∈ w) ↔ (∃ w, rows[i]? = some w ∧ q ∈ w) ∨ s.fo i q (rows.length - 1) = true := by
        by_cases hir : i < rows.length
        · rw [old2 i hir]
          have nfo : ¬ s.fo i q (rows.length - 1) = true := fun z => by
            have := (Sh.fo_in z).1
            omega
          simp [nfo]
        · have nr : rows[i]? = none := List.getElem?_eq_none (by omega)
          rw [nr]
          constructor
          · rintro ⟨w, h1, h2⟩
            exact .inr ((new2 i w (by omega) h1 q).mp h2)
          · rintro (⟨w, h1, _⟩ | z)
            · cases h1
            · have := (Sh.fo_in z).1
              have hl : i < rows2.length := by omega
              exact ⟨_, List.getElem?_eq_getElem hl, (new2 i _ (by omega) (List.getElem?_eq_getElem hl) q).mpr z⟩
      rw [key, or_assoc]
    · rw [hF3 q, List.mem_append, sp.hF q]
      show _ ↔ _ ∨ (s.bg q (rows.length - 1) || Sh.bgo q ss (rows.length - 1 + s.wt)) = true
      rw [Bool.or_eq_true, or_assoc]
    · rw [hL3 q, List.mem_append, sp.hL q]
      show _ ↔ _ ∨ (s.en q (rows.length - 1) || Sh.eno q ss (rows.length - 1 + s.wt)) = true
      rw [Bool.or_eq_true, or_assoc]
    · rw [show Sh.wts (s :: ss) = s.wt + Sh.wts ss from rfl, Nat.mul_add]
      rw [List.length_append] at bF3
      omega
    · rw [show Sh.wts (s :: ss) = s.wt + Sh.wts ss from rfl, Nat.mul_add]
      rw [List.length_append] at bL3
      omega
theorem eit_laid {ss : List Sh} (hd : d ≤ 5) (S : ∀ s ∈ ss, LaidOk n d s) : LaidOk (n + 2) (d + 1) (.eit ss) := fun H p a b mk rs rows P ok r1 rw_ w10 => by
  have rw_ : rows.length + Sh.wts ss ≤ 900 := rw_
  have w10 : Sh.wts ss ≤ 10 := w10
  have bd : Sh.wts ss * Sh.wts ss ≤ 1000000 := Nat.le_trans (Nat.mul_le_mul w10 w10) (by omega)
  have l1 : (H ++ [Cell.lst []]).length = H.length + 1 := by simp
  have T0 : RE H (H ++ [.lst []] ++ [.lst []]) p a b mk rs rs rows rows H.length (H.length + 1) [] [] := ⟨P.push.push, ok, Ext2.refl, (FrP.push (g := [.lst []])).trans FrP.push Ext2.refl, get_old get_last, by rw [← l1]; exact get_last, P.no_own (Nat.le_refl _), P.no_own (by omega), by omega, Nat.le_refl _, by omega, fun _ _ => rfl, Nat.le_refl _⟩
  obtain ⟨H3, F3, L3, rs3, rows3, z5, z6, z7, z8, e3, T3, len3, tr3, hF3, hL3, bF3, bL3⟩ := eit_loop (Sh.wts ss) (pts := .tup (Sh.encs ss)) (r_row := m_laid_row n) (r_eit := m_laid_either n) (r_many := m_laid_many n) (r_times := m_laid_times n) ss _ mk rs rows [] [] false none none none none T0 r1 S (fun t ht => wts_le ht) rw_ w10 (by simp; omega) (by simp; omega)
  rw [Bool.false_or] at e3
  have R3 : LR H H3 p a b (mk ++ Sh.mks ss) rs rs3 rows3 (.ref H.length) (.ref (H.length + 1)) F3 L3 := ⟨T3.P, T3.ok, T3.ex, T3.fr, .inr ⟨_, rfl, T3.hF, T3.nF⟩, .inr ⟨_, rfl, T3.hL, T3.nL⟩⟩
  have ev : m_laid_either (n + 1) [.ref p, .tup (Sh.encs ss)] H = .ok (.tup [.ref H.length, .ref (H.length + 1), .bl (Sh.emo ss)]) H3 := by
    rw [m_laid_either_succ]
    unfold B_laid_either
    rw [ap_fnM]
    simp only [List.map_cons, List.map_nil, List.length_cons, List.length_nil, List.cons_append, List.nil_append, Nat.reduceAdd, Nat.reduceSub, List.replicate]
    refine stN (env2 := [some (.ref p), some (.tup (Sh.encs ss)), some (.ref H.length), none, none, none, none, none, none]) (h2 := H ++ [.lst []]) (by simp [newL]) ?_
    refine stN (env2 := [some (.ref p), some (.tup (Sh.encs ss)), some (.ref H.length), some (.ref (H.length + 1)), none, none, none, none, none]) (h2 := H ++ [.lst []] ++ [.lst []]) (by simp [newL]) ?_
    refine stN (env2 := [some (.ref p), some (.tup (Sh.encs ss)), some (.ref H.length), some (.ref (H.length + 1)), some (.bl false), none, none, none, none]) (h2 := H ++ [.lst []] ++ [.lst []]) (by simp) ?_
    refine stN ((for_st (ds := Sh.encs ss) (h2 := H ++ [.lst []] ++ [.lst []]) (by simp)).trans e3) ?_
    simp
  obtain ⟨H4, e4, R4⟩ := R3.call (k := 2) P rfl ev
  have ev5 : m_laid (n + 2) [.ref p, Sh.enc (.eit ss)] H = .ok (.tup [.ref H.length, .ref (H.length + 1), .bl (Sh.em (.eit ss))]) H4 := by
    rw [m_laid_succ]
    unfold B_laid Sh.enc kEit
    simp [ix0, ix1, e4, Sh.em]
  obtain ⟨H6, e6, R6⟩ := R4.call (k := 2) P rfl ev5
  refine ⟨H6, _, _, _, _, _, _, e6, R6, ⟨_, rfl, Nat.le_refl _⟩, ⟨_, rfl, by omega⟩, len3, T3.old, fun i w' hi hw q => ?_, fun q => ?_, fun q => ?_, ?_, ?_⟩
  · rw [tr3 i w' hi hw q]
    have : rows[i]? = none := List.getElem?_eq_none hi
    simp [this, Sh.fo]
  · rw [hF3 q]
    simp [Sh.bg]
  · rw [hL3 q]
    simp [Sh.en]
  · show _ ≤ Sh.wts ss * Sh.wts ss
    rw [List.length_nil] at bF3
    omega
  · show _ ≤ Sh.wts ss * Sh.wts ss
    rw [List.length_nil] at bL3
    omega
end
end NR

set_option Elab.async false
set_option linter.all false
set_option maxRecDepth 100000
set_option maxHeartbeats 4000000
namespace NR
open PySem PySem.Spec PyProof.Rows L2
/-- the lasts gathered from the lo-th copy on -/
def gaK (f : Nat → Bool) (e : Bool) (w lo : Nat) : Nat → Nat → Nat → Bool → Bool
  | 0, _, _, _ => false
  | k + 1, i, a, b => (decide (lo ≤ i) && (b && e || f a)) || gaK f e w lo k (i + 1) (a + w) (b && e || f a)
theorem gaK_enT {f : Nat → Bool} {e : Bool} {w lo : Nat} : ∀ (k i a : Nat) (b : Bool), lo ≤ i + k → gaK f e w lo (k + 1) i a b = ((b && e) || enT f e w lo (k + 1) i a)
  | 0, i, a, b, h => by
    unfold gaK enT
    have : decide (lo ≤ i) = true := decide_eq_true (by omega)
    rw [this]
    unfold gaK enT
    cases b <;> cases e <;> cases f a <;> rfl
  | k + 1, i, a, b, h => by
    unfold gaK
    rw [gaK_enT k (i + 1) (a + w) _ (by omega)]
    conv => rhs; unfold enT
    generalize enT f e w lo (k + 1) (i + 1) (a + w) = R
    cases b <;> cases e <;> cases f a <;> cases decide (lo ≤ i) <;> cases R <;> rfl
/-- is a course of so many copies empty -/
def gxK (e : Bool) (lo : Nat) : Nat → Nat → Bool → Bool → Bool
  | 0, _, _, X => X
  | k + 1, i, E, X => gxK e lo k (i + 1) (E && e) (if lo ≤ i then (X || (E && e)) else X)
theorem gxK_eq {e : Bool} {lo : Nat} : ∀ (k i : Nat) (E X : Bool), lo ≤ i + k → gxK e lo (k + 1) i E X = (X || (E && e))
  | 0, i, E, X, h => by
    unfold gxK
    rw [if_pos (by omega)]
    rfl
  | k + 1, i, E, X, h => by
    unfold gxK
    rw [gxK_eq k (i + 1) _ _ (by omega)]
    split <;> cases E <;> cases e <;> cases X <;> rfl
section
variable {H0 H H' : IH} {p a b : Nat} {mk0 mk : List (List Nat)} {rs0 rs rs' : List Nat} {rows0 rows rows' : List (List Nat)} {f l : D} {F L : List Nat} {E : Bool} {d n : Nat} {s : Sh}
theorem LsP.setN {i : Nat} {c : Cell} {d : D} {xs : List Nat} (h : LsP H a b rs d xs) (no : d ≠ .ref i) : LsP (H.set i c) a b rs d xs := by
  rcases h with rfl | ⟨n, rfl, h, o⟩
  · exact .inl rfl
  · refine .inr ⟨n, rfl, ?_, o⟩
    rw [List.getElem?_set_ne fun z => no (by rw [z])]
    exact h
theorem RT.setN {i : Nat} {ds : List D} {c : Cell} (T : RT H0 H p a b mk rs0 rs rows0 rows f l F L) (h : H[i]? = some (.lst ds)) (no : ¬ Own a b rs i) (g : H0.length ≤ i) (nf : f ≠ .ref i) (nl : l ≠ .ref i) : RT H0 (H.set i c) p a b mk rs0 rs rows0 rows f l F L :=
  ⟨⟨T.P.setO h no, T.ok, T.ex, T.fr.setN g, T.hf.setN nf, T.hl.setN nl⟩, T.old, T.ge, T.Lb, T.Fb, T.gf, T.gl⟩
theorem tim_loop {r_row r_eit r_many r_times : MF} {lo : Nat} {hi : D} {cC : Nat} (S : LaidOk n d s) : ∀ (k i : Nat) (H : IH) (mk : List (List Nat)) (rs : List Nat) (rows : List (List Nat)) (f l : D) (F L C : List Nat) (E X : Bool) (x : Option D), RT H0 H p a b mk rs0 rs rows0 rows f l F L → H[cC]? = some (.lst (C.map nD)) → ¬ Own a b rs cC → H0.length ≤ cC → f ≠ .ref cC → l ≠ .ref cC → 1 ≤ rows.length → rows.length + k * s.wt ≤ 900 → k * s.wt ≤ 10 → k ≤ 4 → F.length + k * (s.wt * s.wt) ≤ 5000000 → L.length + k * (s.wt * s.wt) ≤ 5000000 → C.length + k * (L.length + k * (s.wt * s.wt)) ≤ 5000000 →
    ∃ (H' : IH) (f' l' : D) (F' L' C' rs' : List Nat) (rows' : List (List Nat)) (x' : Option D), forL (gSet 7) (b_laid_times_1 r_row r_eit r_many r_times (m_laid n)) (intsFrom (i : Nat) k) [some (.ref p), some s.enc, some (.int (lo : Nat)), some hi, some (.tup [f, l, .bl E]), some (.ref cC), some (.bl X), x] H = .nx [some (.ref p), some s.enc, some (.int (lo : Nat)), some hi, some (.tup [f', l', .bl (E && (s.em || decide (k = 0)))]), some (.ref cC), some (.bl (gxK s.em lo k i E X)), x'] H' ∧
      RT H0 H' p a b (mk ++ (List.replicate k s.mk).flatten) rs0 rs' rows0 rows' f' l' F' L' ∧ H'[cC]? = some (.lst (C'.map nD)) ∧ ¬ Own a b rs' cC ∧ rows'.length = rows.length + k * s.wt ∧
      (∀ i w', rows0.length ≤ i → rows'[i]? = some w' → ∀ q, q ∈ w' ↔ (∃ w, rows[i]? = some w ∧ q ∈ w) ∨ foK (fun c => s.fo i q c) (fun c => s.en i c) (fun c => s.bg q c) s.em s.wt k (rows.length - 1) (decide (i ∈ L)) = true) ∧
      (∀ q, q ∈ F' ↔ q ∈ F ∨ (E = true ∧ bgK (fun c => s.bg q c) s.em s.wt k (rows.length - 1) = true)) ∧ (∀ q, q ∈ C' ↔ q ∈ C ∨ gaK (fun c => s.en q c) s.em s.wt lo k i (rows.length - 1) (decide (q ∈ L)) = true) ∧ F'.length ≤ F.length + k * (s.wt * s.wt) ∧ C'.length ≤ C.length + k * (L.length + k * (s.wt * s.wt))
  | 0, i, H, mk, rs, rows, f, l, F, L, C, E, X, x, T, hC, nC, gC, nf, nl, r1, rw_, w10, k4, Fl, Ll, Cl => by
    refine ⟨H, f, l, F, L, C, rs, rows, x, ?_, ?_, hC, nC, by simp, fun i w' hi hw q => ?_, fun q => by simp [bgK], fun q => by simp [gaK], by omega, by omega⟩
    · rw [show decide ((0 : Nat) = 0) = true from rfl, Bool.or_true, Bool.and_true]
      rfl
    · rw [List.replicate_zero, List.flatten_nil, List.append_nil]
      exact T
    · constructor
      · exact fun z => .inl ⟨w', hw, z⟩
      · rintro (⟨w, h1, h2⟩ | z)
        · rw [hw] at h1
          cases h1
          exact h2
        · cases z
  | k + 1, i, H, mk, rs, rows, f, l, F, L, C, E, X, x, T, hC, nC, gC, nf, nl, r1, rw_, w10, k4, Fl, Ll, Cl => by
    have ek : (k + 1) * s.wt = s.wt + k * s.wt := by rw [Nat.add_mul, Nat.one_mul, Nat.add_comm]
    have eB : (k + 1) * (s.wt * s.wt) = s.wt * s.wt + k * (s.wt * s.wt) := by rw [Nat.add_mul, Nat.one_mul, Nat.add_comm]
    have eC : (k + 1) * (L.length + (k + 1) * (s.wt * s.wt)) = (L.length + (k + 1) * (s.wt * s.wt)) + k * (L.length + (k + 1) * (s.wt * s.wt)) := by rw [Nat.add_mul (k) 1, Nat.one_mul, Nat.add_comm]
    rw [ek] at rw_ w10
    rw [eC] at Cl
    rw [eB] at Fl Ll Cl
    have hcl := (List.getElem?_eq_some_iff.mp hC).1
    obtain ⟨H2, f2, l2, F2, L2, rs2, rows2, H1, f1, l1, e1, e2, T2, len2, tr2, hF2, hL2, bF2, bL2, gl2, gf2, fr2, ex2⟩ := row_turn (E := E) T r1 S (by omega) (by omega) (by omega) (by omega) s.wt (Nat.le_refl _) (by omega)
    have tr2' := fun (i q : Nat) (hi : rows0.length ≤ i) => ex_turn (q := q) T r1 len2 tr2 hi
    generalize hB : s.wt * s.wt = B at *
    have kC : H2[cC]? = some (.lst (C.map nD)) := fr2.2 cC _ hC nC
    have nC2 : ¬ Own a b rs2 cC := by
      obtain ⟨new, rfl, hnew⟩ := ex2
      rintro (z | z | z)
      · exact nC (.inl z)
      · exact nC (.inr (.inl z))
      · rcases List.mem_append.mp z with z | z
        · exact nC (.inr (.inr z))
        · have := hnew _ z; omega
    obtain ⟨m2, el2, gl2⟩ := gl2
    have nl2 : l2 ≠ .ref cC := fun z => by
      rw [el2] at z
      injection z with z
      omega
    have nf2 : f2 ≠ .ref cC := by
      rcases gf2 with z | ⟨m, z, z2⟩
      · rw [z]; exact nf
      · intro w
        rw [z] at w
        injection w with w
        omega
    have hm2 : H2[m2]? = some (.lst (L2.map nD)) := by
      have h := T2.hl
      rw [el2] at h
      rcases h with z | ⟨m, z, h, _⟩
      · cases z
      · cases z; exact h
    have off : rows2.length - 1 = rows.length - 1 + s.wt := by omega
    -- what is gathered
    obtain ⟨H3, C1, e3, T3, hC3, cm, cl⟩ : ∃ (H3 : IH) (C1 : List Nat), b_laid_times_1 r_row r_eit r_many r_times (m_laid n) [some (.ref p), some s.enc, some (.int (lo : Nat)), some hi, some (.tup [f, l, .bl E]), some (.ref cC), some (.bl X), some (.int (i : Nat))] H = .nx [some (.ref p), some s.enc, some (.int (lo : Nat)), some hi, some (.tup [f2, l2, .bl (E && s.em)]), some (.ref cC), some (.bl (if lo ≤ i then (X || (E && s.em)) else X)), some (.int (i : Nat))] H3 ∧
        RT H0 H3 p a b (mk ++ s.mk) rs0 rs2 rows0 rows2 f2 l2 F2 L2 ∧ H3[cC]? = some (.lst (C1.map nD)) ∧ (∀ q, q ∈ C1 ↔ q ∈ C ∨ (lo ≤ i ∧ q ∈ L2)) ∧ C1.length ≤ C.length + L2.length := by
      by_cases hli : lo ≤ i
      · have a2 : dIAddL (.ref cC) (.ref m2) H2 = .ok (.ref cC) (H2.set cC (.lst ((C ++ L2).map nD))) := by
          rw [dIAddL_new (h' := []) kC hm2 (by rw [List.length_map, List.length_map]; omega), List.map_append]
        refine ⟨H2.set cC (.lst ((C ++ L2).map nD)), C ++ L2, ?_, T2.setN kC nC2 gC nf2 nl2, List.getElem?_set_self (List.getElem?_eq_some_iff.mp kC).1, fun q => by simp [hli], by simp⟩
        rw [if_pos hli]
        generalize H2.set cC (.lst ((C ++ L2).map nD)) = H9 at *
        unfold b_laid_times_1
        refine stS (env2 := [some (.ref p), some s.enc, some (.int (lo : Nat)), some hi, some (.tup [f2, l2, .bl (E && s.em)]), some (.ref cC), some (.bl X), some (.int (i : Nat))]) (h2 := H2) (by simp [e1, e2]) ?_
        have ge : ((lo : Int) ≤ i) := by omega
        rw [el2]
        generalize (E && s.em) = EE at *
        cases X <;> simp [hli, ix1, ix2, a2]
      · refine ⟨H2, C, ?_, T2, kC, fun q => by simp [hli], by omega⟩
        rw [if_neg hli]
        unfold b_laid_times_1
        refine stS (env2 := [some (.ref p), some s.enc, some (.int (lo : Nat)), some hi, some (.tup [f2, l2, .bl (E && s.em)]), some (.ref cC), some (.bl X), some (.int (i : Nat))]) (h2 := H2) (by simp [e1, e2]) ?_
        simp [hli]
    have mlt : k * (L2.length + k * B) ≤ k * (L.length + (B + k * B)) := Nat.mul_le_mul_left k (by omega)
    obtain ⟨H4, f4, l4, F4, L4, C4, rs4, rows4, x4, e4, T4, hC4, nC4, len4, tr4, hF4, hCC4, bF4, bC4⟩ := tim_loop (r_row := r_row) (r_eit := r_eit) (r_many := r_many) (r_times := r_times) (lo := lo) (hi := hi) (cC := cC) S k (i + 1) H3 _ rs2 rows2 f2 l2 F2 L2 C1 (E && s.em) (if lo ≤ i then (X || (E && s.em)) else X) (some (.int (i : Nat))) T3 hC3 nC2 gC nf2 nl2 (by omega) (by omega) (by omega) (by omega) (by rw [hB]; omega) (by rw [hB]; omega) (by rw [hB]; omega)
    rw [hB] at bF4 bC4
    rw [off] at tr4 hF4 hCC4
    have dL : ∀ q, decide (q ∈ L2) = (decide (q ∈ L) && s.em || s.en q (rows.length - 1)) := fun q => by
      rw [Bool.eq_iff_iff]
      simp only [decide_eq_true_eq, Bool.or_eq_true, Bool.and_eq_true]
      rw [hL2]
      constructor
      · rintro (z | z)
        · exact .inl ⟨z.2, z.1⟩
        · exact .inr z
      · rintro (z | z)
        · exact .inl ⟨z.2, z.1⟩
        · exact .inr z
    refine ⟨H4, f4, l4, F4, L4, C4, rs4, rows4, x4, ?_, ?_, hC4, nC4, by rw [ek]; omega, fun j w' hj hw q => ?_, fun q => ?_, fun q => ?_, by rw [eB]; omega, by rw [eC, eB]; omega⟩
    · rw [intsFrom_succ, forL_cons (e1 := [some (.ref p), some s.enc, some (.int (lo : Nat)), some hi, some (.tup [f, l, .bl E]), some (.ref cC), some (.bl X), some (.int (i : Nat))]) rfl, e3, on_nx]
      have ee : (E && (s.em || decide (k + 1 = 0))) = (E && s.em && (s.em || decide (k = 0))) := by
        rw [decide_eq_false (show ¬ k + 1 = 0 by omega)]
        cases E <;> cases s.em <;> rfl
      rw [ee]
      exact e4
    · rw [List.replicate_succ, List.flatten_cons, ← List.append_assoc]
      exact T4
    · rw [tr4 j w' hj hw q, tr2' j q hj, dL]
      show _ ↔ _ ∨ (s.fo j q (rows.length - 1) || (decide (j ∈ L) && s.bg q (rows.length - 1)) || foK (fun c => s.fo j q c) (fun c => s.en j c) (fun c => s.bg q c) s.em s.wt k (rows.length - 1 + s.wt) (decide (j ∈ L) && s.em || s.en j (rows.length - 1))) = true
      simp only [Bool.or_eq_true, Bool.and_eq_true, decide_eq_true_eq]
      constructor
      · rintro ((z | z | z) | z)
        · exact .inl z
        · exact .inr (.inl (.inl z))
        · exact .inr (.inl (.inr z))
        · exact .inr (.inr z)
      · rintro (z | (z | z) | z)
        · exact .inl (.inl z)
        · exact .inl (.inr (.inl z))
        · exact .inl (.inr (.inr z))
        · exact .inr z
    · rw [hF4 q, hF2 q]
      show _ ↔ _ ∨ (E = true ∧ (s.bg q (rows.length - 1) || (s.em && bgK (fun c => s.bg q c) s.em s.wt k (rows.length - 1 + s.wt))) = true)
      simp only [Bool.or_eq_true, Bool.and_eq_true]
      constructor
      · rintro ((z | z) | z)
        · exact .inl z
        · exact .inr ⟨z.1, .inl z.2⟩
        · exact .inr ⟨z.1.1, .inr ⟨z.1.2, z.2⟩⟩
      · rintro (z | ⟨z1, z | z⟩)
        · exact .inl (.inl z)
        · exact .inl (.inr ⟨z1, z⟩)
        · exact .inr ⟨⟨z1, z.1⟩, z.2⟩
    · rw [hCC4 q, cm q, dL]
      show _ ↔ _ ∨ ((decide (lo ≤ i) && (decide (q ∈ L) && s.em || s.en q (rows.length - 1))) || gaK (fun c => s.en q c) s.em s.wt lo k (i + 1) (rows.length - 1 + s.wt) (decide (q ∈ L) && s.em || s.en q (rows.length - 1))) = true
      rw [← dL, Bool.or_eq_true, Bool.and_eq_true, decide_eq_true_eq, decide_eq_true_eq, or_assoc]
end
end NR

set_option Elab.async false
set_option linter.all false
set_option maxRecDepth 100000
set_option maxHeartbeats 4000000
namespace NR
open PySem PySem.Spec PyProof.Rows L2
section
variable {H0 H H' : IH} {p a b : Nat} {mk0 mk : List (List Nat)} {rs0 rs rs' : List Nat} {rows0 rows rows' : List (List Nat)} {f l : D} {F L : List Nat} {E : Bool} {d n : Nat} {s : Sh}
theorem RT.push {g : IH} (T : RT H0 H p a b mk rs0 rs rows0 rows f l F L) : RT H0 (H ++ g) p a b mk rs0 rs rows0 rows f l F L :=
  ⟨⟨T.P.push, T.ok, T.ex, T.fr.trans FrP.push T.ex, T.hf.keep FrP.push Ext2.refl, T.hl.keep FrP.push Ext2.refl⟩, T.old, T.ge, T.Lb, T.Fb, T.gf, T.gl⟩
theorem tim_laid {lo hi : Nat} (hd : d ≤ 5) (S : LaidOk n d s) (lh : lo ≤ hi) (h4 : hi ≤ 4) : LaidOk (n + 2) (d + 1) (.tim s lo hi) := fun H p a b mk rs rows P ok r1 rw_ w10 => by
  have rw_ : rows.length + hi * s.wt ≤ 900 := rw_
  have w10 : hi * s.wt ≤ 10 := w10
  have eB : hi * (hi * (s.wt * s.wt)) = hi * s.wt * (hi * s.wt) := by
    rw [Nat.mul_assoc hi s.wt, ← Nat.mul_assoc s.wt hi, Nat.mul_comm s.wt hi, Nat.mul_assoc hi s.wt]
  have bd0 : hi * s.wt * (hi * s.wt) ≤ 100 := Nat.mul_le_mul w10 w10
  have bdh : hi * (s.wt * s.wt) ≤ hi * (hi * (s.wt * s.wt)) := by
    cases hi with
    | zero => simp
    | succ k => exact Nat.mul_le_mul (Nat.le_refl _) (Nat.le_mul_of_pos_left _ (by omega))
  have bd : hi * (s.wt * s.wt) ≤ 1000000 := by omega
  have bd1 : hi * (hi * (s.wt * s.wt)) ≤ 4 * 1000000 := by omega
  have l1 : (H ++ [Cell.lst []]).length = H.length + 1 := by simp
  have l2 : (H ++ [Cell.lst []] ++ [Cell.lst []]).length = H.length + 2 := by simp
  have T0 := (RT.start P ok).push (g := [.lst []])
  rw [l1] at T0
  have hC0 : (H ++ [Cell.lst []] ++ [Cell.lst []] ++ [Cell.lst []])[H.length + 2]? = some (.lst (([] : List Nat).map nD)) := by
    rw [← l2]
    exact get_last
  obtain ⟨H4, f4, l4, F4, L4, C4, rs4, rows4, x4, e4, T4, hC4, nC4, len4, tr4, hF4, hCC4, bF4, bC4⟩ := tim_loop (r_row := m_laid_row n) (r_eit := m_laid_either n) (r_many := m_laid_many n) (r_times := m_laid_times n) (lo := lo) (hi := .int (hi : Nat)) (cC := H.length + 2) S hi 1 _ mk rs rows _ _ [] [] [] true (decide (lo = 0)) none T0 hC0 (P.no_own (by omega)) (by omega) (fun z => by injection z with z; omega) (fun z => by injection z with z; omega) r1 rw_ w10 h4 (by simp; omega) (by simp; omega) (by simp; omega)
  have ex : gxK s.em lo hi 1 true (decide (lo = 0)) = Sh.em (.tim s lo hi) := by
    show _ = (decide (lo = 0) || s.em)
    cases hi with
    | zero =>
      have : lo = 0 := by omega
      subst this
      rfl
    | succ k => rw [gxK_eq k 1 _ _ (by omega), Bool.true_and]
  rw [ex] at e4
  have R4 : LR H H4 p a b (mk ++ Sh.mk (.tim s lo hi)) rs rs4 rows4 f4 (.ref (H.length + 2)) F4 C4 := ⟨T4.P, T4.ok, T4.ex, T4.fr, T4.hf, .inr ⟨_, rfl, hC4, nC4⟩⟩
  have ev : m_laid_times (n + 1) [.ref p, s.enc, .int (lo : Nat), .int (hi : Nat)] H = .ok (.tup [f4, .ref (H.length + 2), .bl (Sh.em (.tim s lo hi))]) H4 := by
    rw [m_laid_times_succ]
    unfold B_laid_times
    rw [ap_fnM]
    simp only [List.map_cons, List.map_nil, List.length_cons, List.length_nil, List.cons_append, List.nil_append, Nat.reduceAdd, Nat.reduceSub, List.replicate]
    refine stN (env2 := [some (.ref p), some s.enc, some (.int (lo : Nat)), some (.int (hi : Nat)), some (.tup [.ref H.length, .ref (H.length + 1), .bl true]), none, none, none]) (h2 := H ++ [.lst []] ++ [.lst []]) (by simp [newL]) ?_
    refine stN (env2 := [some (.ref p), some s.enc, some (.int (lo : Nat)), some (.int (hi : Nat)), some (.tup [.ref H.length, .ref (H.length + 1), .bl true]), some (.ref (H.length + 2)), none, none]) (h2 := H ++ [.lst []] ++ [.lst []] ++ [.lst []]) (by simp [newL]) ?_
    refine stN (env2 := [some (.ref p), some s.enc, some (.int (lo : Nat)), some (.int (hi : Nat)), some (.tup [.ref H.length, .ref (H.length + 1), .bl true]), some (.ref (H.length + 2)), some (.bl (decide (lo = 0))), none]) (h2 := H ++ [.lst []] ++ [.lst []] ++ [.lst []]) (by
      have : decide ((lo : Int) = 0) = decide (lo = 0) := by
        by_cases h : lo = 0
        · subst h; rfl
        · rw [decide_eq_false h, decide_eq_false (by omega)]
      simp [this]) ?_
    refine stN ((for_st (ds := intsFrom ((1 : Nat) : Int) hi) (h2 := H ++ [.lst []] ++ [.lst []] ++ [.lst []]) (iRange2_of (i := ((1 : Nat) : Int)) (j := (hi : Int) + 1) (k := hi) (by simp) (by omega) (by omega) (by omega))).trans e4) ?_
    simp [ix0]
  obtain ⟨H5, e5, R5⟩ := R4.call (k := 4) P rfl ev
  have ev6 : m_laid (n + 2) [.ref p, Sh.enc (.tim s lo hi)] H = .ok (.tup [f4, .ref (H.length + 2), .bl (Sh.em (.tim s lo hi))]) H5 := by
    rw [m_laid_succ]
    unfold B_laid Sh.enc kTim
    generalize Sh.em (.tim s lo hi) = EM at *
    simp [ix0, ix1, ix2, ix3, e5]
  obtain ⟨H6, e6, R6⟩ := R5.call (k := 2) P rfl ev6
  refine ⟨H6, _, _, _, _, _, _, e6, R6, T4.gf, ⟨_, rfl, by omega⟩, len4, T4.old, fun i w' hi' hw q => ?_, fun q => ?_, fun q => ?_, ?_, ?_⟩
  · rw [tr4 i w' hi' hw q]
    have : rows[i]? = none := List.getElem?_eq_none hi'
    simp [this, Sh.fo]
  · rw [hF4 q]
    simp [Sh.bg]
  · rw [hCC4 q]
    have : decide (q ∈ ([] : List Nat)) = false := by simp
    rw [this]
    show q ∈ [] ∨ _ ↔ enT (fun c => s.en q c) s.em s.wt lo hi 1 (rows.length - 1) = true
    cases hi with
    | zero => simp [gaK, enT]
    | succ k =>
      rw [gaK_enT k 1 _ false (by omega)]
      simp
  · show _ ≤ hi * s.wt * (hi * s.wt)
    rw [List.length_nil] at bF4
    omega
  · show _ ≤ hi * s.wt * (hi * s.wt)
    rw [List.length_nil] at bC4
    simp only [Nat.zero_add] at bC4
    omega
/-- every drawn shape is laid so -/
theorem laid_all : ∀ (d n : Nat) (s : Sh), ShD d s → d ≤ 6 → 2 * d ≤ n → LaidOk n d s
  | 0, n, s, h, _, _ => by cases h
  | d + 1, n, s, h, d6, hn => by
    obtain ⟨m, rfl⟩ : ∃ m, n = m + 2 := ⟨n - 2, by omega⟩
    cases h with
    | one => exact one_laid (m + 1) (d + 1) _
    | row h => exact row_laid (by omega) fun y hy => laid_all d m y (h y hy) (by omega) (by omega)
    | eit h => exact eit_laid (by omega) fun y hy => laid_all d m y (h y hy) (by omega) (by omega)
    | many h => exact many_laid (laid_all d m _ h (by omega) (by omega))
    | tim h lh h4 => exact tim_laid (by omega) (laid_all d m _ h (by omega) (by omega)) lh h4
end
end NR

set_option Elab.async false
set_option linter.all false
set_option maxRecDepth 100000
set_option maxHeartbeats 4000000
namespace NR
open PySem PySem.Spec PyProof.Rows L2
/-! ### shapes that are drawn -/
theorem okB_set {k : Nat} {v : Cell} (lv : Cell.lo k v = true) : ∀ {g : IH} {i : Nat} {r : IH}, okB k g (g.set i v ++ r)
  | [], _, _ => True.intro
  | c :: g, 0, r => ⟨.inr lv, okB_self⟩
  | c :: g, i + 1, r => ⟨.inl rfl, okB_set (g := g) (i := i) lv⟩
theorem get_setC {g : IH} {i : Nat} {v w : Cell} (e : g[i]? = some v) : (g.set i w)[i]? = some w := by
  have := (List.getElem?_eq_some_iff.mp e).1
  rw [List.getElem?_set_self this]
def pu (p : Nat) : Cell := .lst [.int (p : Nat)]
theorem parts_one {d : Nat} {s : List Nat} : partsD (d + 1) (.tup [.str kOne, .str s]) = [.tup [.str kOne, .str s]] := by
  unfold partsD
  rw [innerD_one]
  rfl
/-- a shape as the law draws it -/
inductive Sg (t : List Nat) : Nat → D → Prop
  | one {d : Nat} {s : List Nat} (n1 : 1 ≤ s.length) (n6 : s.length ≤ 6) (nd : s.Nodup) (sub : ∀ c ∈ s, c ∈ t) : Sg t (d + 1) (.tup [.str kOne, .str s])
  | row {d : Nat} {l : List D} (n : l.length ≤ 6) (h : ∀ y ∈ l, Sg t d y) : Sg t (d + 1) (.tup [.str kRow, .tup l])
  | eit {d : Nat} {l : List D} (n : l.length ≤ 6) (n1 : 1 ≤ l.length) (h : ∀ y ∈ l, Sg t d y) : Sg t (d + 1) (.tup [.str kEit, .tup l])
  | many {d : Nat} {p : D} (h : Sg t d p) : Sg t (d + 1) (.tup [.str kMany, p])
  | times {d : Nat} {p : D} {lo hi : Int} (h : Sg t d p) (l0 : 0 ≤ lo) (lh : lo ≤ hi) (h4 : hi ≤ 4) : Sg t (d + 1) (.tup [.str kTim, p, .int lo, .int hi])
theorem Sg.sh {t : List Nat} {d : Nat} {x : D} (h : Sg t d x) : IsSh d x := by
  induction h with
  | one => exact .one
  | row n _ ih => exact .row (by omega) ih
  | eit n _ _ ih => exact .eit (by omega) ih
  | many _ ih => exact .many ih
  | times _ l0 lh h4 ih => exact .times ih (by omega) h4
theorem Sg.lo {t : List Nat} {d : Nat} {x : D} (h : Sg t d x) (n : Nat) : x.lo n = true := h.sh.lo n
end NR

set_option Elab.async false
set_option linter.all false
set_option maxRecDepth 100000
set_option maxHeartbeats 4000000
namespace NR
open PySem PySem.Spec PyProof.Rows L2
/-! ### shapes that the book's law draws -/
theorem ones_loop {t : List Nat} {z : Cell} {g : IH} {e1 e4 : Option D} : ∀ (ds : List D) (b : Nat) (c : Cell) (rs f : List Nat) (x5 x6 : Option D), ds.length ≤ rs.length → rs.length ≤ 1000 → f.length + ds.length ≤ 1000 → f.Nodup → rs.Nodup → (∀ k ∈ f, k ∉ rs) → (∀ k ∈ f, k ∈ t) → (∀ k ∈ rs, k ∈ t) → Pn (b + ds.length) c →
    ∃ (rs' f' : List Nat) (c' : Cell) (y5 y6 : Option D), forL (gSet 5) b__law_ones_1 ds [some (.ref 1), e1, some (.str rs), some (.str f), e4, x5, x6] (z :: c :: g) = .nx [some (.ref 1), e1, some (.str rs'), some (.str f'), e4, y5, y6] (z :: c' :: g) ∧ f'.length = f.length + ds.length ∧ f'.Nodup ∧ (∀ k ∈ f', k ∈ t) ∧ Pn b c'
  | [], b, c, rs, f, x5, x6, _, _, _, nf, _, _, s1, _, hp => ⟨rs, f, c, x5, x6, rfl, by simp, nf, s1, hp⟩
  | d :: ds, b, c, rs, f, x5, x6, dl, rl, fl, nf, nr, dj, s1, s2, hp => by
    rw [List.length_cons] at dl hp fl
    obtain ⟨u, c2, e2, u1, p2⟩ := draw_call (b := b + ds.length) (z := z) (c := c) (g := g) (m := rs.length) (hp.mono (by omega)) (by omega) (by omega)
    have hu : u < rs.length := by omega
    have hc : rs[u]? = some rs[u] := List.getElem?_eq_getElem hu
    generalize rs[u] = k at hc
    have hkm : k ∈ rs := List.mem_of_getElem? hc
    have b1 : ∀ h : IH, bLen [.str rs] h = .ok (.int (rs.length : Nat)) h := fun h => bLen_str (by omega)
    have b2 : ∀ h : IH, dIx (.str rs) (.int (u : Nat)) h = .ok (.str [k]) h := fun h => dIx_str (by omega) (by simpa using hc) (by omega)
    have b3 : ∀ h : IH, dIAdd (.str f) (.str [k]) h = .ok (.str (f ++ [k])) h := fun h => dIAdd_str (by simp; omega)
    have b4 : ∀ h : IH, sliceD (.str rs) none (some (u : Nat)) h = .ok (.str (rs.take u)) h := fun h => by rw [sliceD_str (by omega), cutN_to (by omega)]; simp
    have b5 : ∀ h : IH, sliceD (.str rs) (some ((u : Nat) + 1)) none h = .ok (.str (rs.drop (u + 1))) h := fun h => by rw [sliceD_str (by omega), cutN_from (by omega)]; congr 2
    have b6 : ∀ h : IH, dAdd (.str (rs.take u)) (.str (rs.drop (u + 1))) h = .ok (.str (rs.eraseIdx u)) h := fun h => by
      rw [dAdd_str, erase_cut]
      rw [List.length_take, List.length_drop]
      omega
    have el : (rs.eraseIdx u).length = rs.length - 1 := by rw [List.length_eraseIdx, if_pos hu]
    obtain ⟨rs', f', c', y5, y6, ih, l1, n1, q1, p1⟩ := ones_loop (t := t) (z := z) (g := g) (e1 := e1) (e4 := e4) ds b c2 (rs.eraseIdx u) (f ++ [k]) (some d) (some (.int (u : Nat))) (by omega) (by omega) (by simp; omega) (by
      rw [List.nodup_append]
      exact ⟨nf, by simp, fun a ha j hj => by rw [List.mem_singleton] at hj; subst hj; exact fun z => dj a ha (z ▸ hkm)⟩) (nodup_erase nr _) (by
      intro a ha
      rcases List.mem_append.mp ha with ha | ha
      · exact fun z => dj a ha ((List.eraseIdx_sublist _ _).subset z)
      · rw [List.mem_singleton] at ha
        subst ha
        exact not_mem_erase nr hc) (by
      intro a ha
      rcases List.mem_append.mp ha with ha | ha
      · exact s1 a ha
      · rw [List.mem_singleton] at ha
        subst ha
        exact s2 a hkm) (fun j hj => s2 j ((List.eraseIdx_sublist _ _).subset hj)) p2
    refine ⟨rs', f', c', y5, y6, ?_, by rw [l1, List.length_append, List.length_singleton, List.length_cons]; omega, n1, q1, p1⟩
    rw [forL_cons (e1 := [some (.ref 1), e1, some (.str rs), some (.str f), e4, some d, x6]) rfl]
    have e : b__law_ones_1 [some (.ref 1), e1, some (.str rs), some (.str f), e4, some d, x6] (z :: c :: g) = .nx [some (.ref 1), e1, some (.str (rs.eraseIdx u)), some (.str (f ++ [k])), e4, some d, some (.int (u : Nat))] (z :: c2 :: g) := by
      unfold b__law_ones_1
      refine stS (env2 := [some (.ref 1), e1, some (.str rs), some (.str f), e4, some d, some (.int (u : Nat))]) (h2 := z :: c2 :: g) (by simp [b1, e2]) ?_
      refine stS (env2 := [some (.ref 1), e1, some (.str rs), some (.str (f ++ [k])), e4, some d, some (.int (u : Nat))]) (h2 := z :: c2 :: g) (by simp [b2, b3]) ?_
      generalize rs.eraseIdx u = RE at *
      generalize rs.take u = RT at *
      generalize rs.drop (u + 1) = RD at *
      simp [b4, b5, b6]
    rw [e, on_nx]
    exact ih
theorem ones_call {b : Nat} {z c : Cell} {g : IH} {t : List Nat} (tg : Tgn t) (hp : Pn (b + 9) c) : ∃ s c', callC 2 m__law_ones [.ref 1, .str t] (z :: c :: g) = .ok (.str s) (z :: c' :: g) ∧ 1 ≤ s.length ∧ s.length ≤ 6 ∧ s.Nodup ∧ (∀ k ∈ s, k ∈ t) ∧ Pn b c' := by
  have t1 := tg.l1
  have t2 := tg.l2
  obtain ⟨u, c1, e1, u1, p1⟩ := draw_call (b := b + 8) (z := z) (c := c) (g := g) (m := 2) (hp.mono (by omega)) (by omega) (by omega)
  have ht : ∀ h : IH, bLen [.str t] h = .ok (.int (t.length : Nat)) h := fun h => bLen_str (by omega)
  obtain ⟨m, c2, m1, m2, p2, em⟩ : ∃ (m : Nat) (c2 : Cell), 1 ≤ m ∧ m ≤ t.length ∧ Pn (b + 7) c2 ∧ (msIf (mTb (mOp (dEq false) (mCall 2 (m__law_draw) (mCons (mVar 0) (mCons (mC (.int 2)) (mNil)))) (mC (.int 0)))) (msSet 4 (mOp dAdd (mC (.int 1)) (mCall 2 (m__law_draw) (mCons (mVar 0) (mCons (mB bLen (mCons (mVar 1) (mNil))) (mNil)))))) (msNil)) [some (.ref 1), some (.str t), some (.str t), some (.str []), some (.int 1), none, none] (z :: c :: g) = .nx [some (.ref 1), some (.str t), some (.str t), some (.str []), some (.int (m : Nat)), none, none] (z :: c2 :: g) := by
    by_cases u0 : u = 0
    · subst u0
      have e1 : callC 2 m__law_draw [.ref 1, .int 2] (z :: c :: g) = .ok (.int 0) (z :: c1 :: g) := e1
      obtain ⟨v, c2, e2, v1, p2⟩ := draw_call (b := b + 7) (z := z) (c := c1) (g := g) (m := (t.length : Nat)) (p1.mono (by omega)) (by omega) (by omega)
      refine ⟨1 + v, c2, by omega, by omega, p2, ?_⟩
      have : (1 : Int) + (v : Nat) = ((1 + v : Nat) : Int) := by omega
      simp [e1, ht, e2]
    · have u0' : ¬ (u : Int) = 0 := by omega
      exact ⟨1, c1, by omega, by omega, p1.mono (by omega), by simp [e1, u0, u0']⟩
  obtain ⟨rs', f', c', y5, y6, lp, l1, n1, q1, p3⟩ := ones_loop (t := t) (z := z) (g := g) (e1 := some (.str t)) (e4 := some (.int (m : Nat))) (intsFrom 0 m) b c2 t [] none none (by rw [show (intsFrom 0 m).length = m by simp [intsFrom]]; omega) (by omega) (by rw [show (intsFrom 0 m).length = m by simp [intsFrom]]; simp; omega) (by simp) tg.nd (by simp) (by simp) (fun k h => h) (p2.mono (by rw [show (intsFrom 0 m).length = m by simp [intsFrom]]; omega))
  rw [show (intsFrom 0 m).length = m by simp [intsFrom]] at l1
  simp only [List.length_nil, Nat.zero_add] at l1
  refine ⟨f', c', callC_pen0 rfl ?_, by omega, by omega, n1, q1, p3⟩
  unfold m__law_ones
  rw [ap_fnM]
  simp only [List.map_cons, List.map_nil, List.length_cons, List.length_nil, List.cons_append, List.nil_append, Nat.reduceAdd, Nat.reduceSub, List.replicate]
  refine stN (env2 := [some (.ref 1), some (.str t), some (.str t), none, none, none, none]) (h2 := z :: c :: g) (by simp) ?_
  refine stN (env2 := [some (.ref 1), some (.str t), some (.str t), some (.str []), none, none, none]) (h2 := z :: c :: g) (by simp) ?_
  refine stN (env2 := [some (.ref 1), some (.str t), some (.str t), some (.str []), some (.int 1), none, none]) (h2 := z :: c :: g) (by simp) ?_
  refine stN em ?_
  refine stN (env2 := [some (.ref 1), some (.str t), some (.str rs'), some (.str f'), some (.int (m : Nat)), y5, y6]) (h2 := z :: c' :: g) ((for_st (ds := intsFrom 0 m) (h2 := z :: c2 :: g) (iRange1_of (j := (m : Nat)) (k := m) (by simp) rfl (by omega))).trans lp) ?_
  simp
theorem lMany7 : ([109, 97, 110, 121] : List Nat) = kMany := rfl
theorem lweight_call : ∀ (d n : Nat) {x : D}, IsSh d x → d ≤ n → ∀ h : IH, callC 1 (m__law_weight n) [x] h = .ok (.int (weightD d x)) h
  | 0, _, _, s, _, _ => by cases s
  | d + 1, 0, _, _, l, _ => by omega
  | d + 1, n + 1, x, s, l, h => by
    rw [m__law_weight_succ]
    refine callC_same rfl ?_
    have si := str_in h
    unfold B__law_weight
    rw [lOne, lRow, lEit, lMany7]
    have seq : ∀ (kk : List Nat) (ys : List D), kk = kRow ∨ kk = kEit → ys.length ≤ 100 → (∀ y ∈ ys, IsSh d y) → mFz (mLc (iSeq (mOp dIx (mVar 0) (mC (.int 1)))) (gSet 1) mYes (e__law_weight_1 (m__law_weight n)) [1]) [some (.tup [.str kk, .tup ys]), none] h = .ok (.fl ((ys.map (weightD d)).map D.int)) h := fun kk ys hk yl hy => by
      have t' := t1 h (l := [.str kk, .tup ys]) rfl
      have comp := lcF_map (h := h) (env := [some (.tup [.str kk, .tup ys]), none]) (it := iSeq (mOp dIx (mVar 0) (mC (.int 1)))) (ws := [1]) (gg := gSet 1) (m := e__law_weight_1 (m__law_weight n)) (ds := ys) (fun y => .int (weightD d y)) (by simp [t']) (by omega) (fun y _ => rfl) (fun y hy' => ⟨_, rfl, fun w => by
        have := lweight_call d n (hy y hy') (by omega) (h ++ [w])
        unfold e__law_weight_1
        simp [wipeE, gSet, this]⟩)
      rw [comp, List.map_map]
      rfl
    cases s with
    | one =>
      rename_i s
      have a0 := t0 h (l := [.str kOne, .str s]) rfl
      have : weightD (d + 1) (.tup [.str kOne, .str s]) = 1 := by simp [weightD]
      rw [this]
      simp [a0]
    | row n1 hh =>
      rename_i ys
      have a0 := t0 h (l := [.str kRow, .tup ys]) rfl
      have sq := seq kRow ys (.inl rfl) n1 hh
      have : weightD (d + 1) (.tup [.str kRow, .tup ys]) = (ys.map (weightD d)).sum := by simp [weightD, innerD_row]
      rw [this]
      generalize mFz (mLc (iSeq (mOp dIx (mVar 0) (mC (.int 1)))) (gSet 1) mYes (e__law_weight_1 (m__law_weight n)) [1]) = CC at *
      generalize ys.map (weightD d) = W at *
      simp [a0, si, sq]
    | eit n1 hh =>
      rename_i ys
      have a0 := t0 h (l := [.str kEit, .tup ys]) rfl
      have sq := seq kEit ys (.inr rfl) n1 hh
      have : weightD (d + 1) (.tup [.str kEit, .tup ys]) = (ys.map (weightD d)).sum := by simp [weightD, innerD_eit]
      rw [this]
      generalize mFz (mLc (iSeq (mOp dIx (mVar 0) (mC (.int 1)))) (gSet 1) mYes (e__law_weight_1 (m__law_weight n)) [1]) = CC at *
      generalize ys.map (weightD d) = W at *
      simp [a0, si, sq]
    | many hh =>
      rename_i y
      have a0 := t0 h (l := [.str kMany, y]) rfl
      have a1 := t1 h (l := [.str kMany, y]) rfl
      have wc := lweight_call d n hh (by omega) h
      have : weightD (d + 1) (.tup [.str kMany, y]) = weightD d y := by simp [weightD, innerD_many]
      rw [this]
      simp [a0, a1, si, wc]
    | times hh h0 h4 =>
      rename_i y lo hi
      have a0 := t0 h (l := [.str kTim, y, .int lo, .int hi]) rfl
      have a1 := t1 h (l := [.str kTim, y, .int lo, .int hi]) rfl
      have a3 := t3 h (l := [.str kTim, y, .int lo, .int hi]) rfl
      have wc := lweight_call d n hh (by omega) h
      have : weightD (d + 1) (.tup [.str kTim, y, .int lo, .int hi]) = hi * weightD d y := by simp [weightD, innerD_times]
      rw [this]
      have cm : cMul hi (weightD d y) = true := by simp [cMul]; omega
      simp [a0, a1, a3, si, wc, cm]
end NR

set_option Elab.async false
set_option linter.all false
set_option maxRecDepth 100000
set_option maxHeartbeats 4000000
namespace NR
open PySem PySem.Spec PyProof.Rows L2
theorem ints_len {n : Nat} : (intsFrom 0 n).length = n := by simp [intsFrom]
theorem set_app_lt {g : IH} {i : Nat} {v x : Cell} (h : i < g.length) : (g ++ [x]).set i v = g.set i v ++ [x] := by rw [List.set_append_left _ _ h]
section
variable {t : List Nat} {e n : Nat} {z : Cell}
/-- what _law_shape does -/
def ShOk (t : List Nat) (e n : Nat) : Prop := ∀ (b r i : Nat) (pz : Int) (z c : Cell) (g : IH), g[i]? = some (pu r) → 1 ≤ r → r ≤ 24 → Pn (b + 20 * r) c →
    ∃ (x : D) (r' : Nat) (c' : Cell), callC 5 (m__law_shape n) [.ref 1, .str t, .int (e : Nat), .int pz, .ref (i + 1 + 1)] (z :: c :: g) = .ok x (z :: c' :: g.set i (pu r')) ∧ Sg t e x ∧ r' + (partsD e x).length = r ∧ Pn (b + 20 * r') c'
theorem parts_loop (ok : ShOk t e n) (e1 : 1 ≤ e) (en : e ≤ 24) {i : Nat} {d : Int} (dm : d - 1 = (e : Nat)) : ∀ (ds : List D) (b r : Nat) (pz : Int) (c : Cell) (g : IH) (ys : List D) (x5 x6 x7 x9 x10 : Option D), g[i]? = some (pu r) → r ≤ 24 → ys.length + ds.length ≤ 6 → (∀ y ∈ ys, Sg t e y) → Pn (b + 20 * r) c →
    ∃ (pz' : Int) (r' : Nat) (c' : Cell) (ys' : List D) (y9 y10 : Option D), forL (gSet 9) (b__law_shape_1 (m__law_shape n)) ds [some (.ref 1), some (.str t), some (.int d), some (.int pz), some (.ref (i + 1 + 1)), x5, x6, x7, some (.ref (g.length + 2)), x9, x10] (z :: c :: (g ++ [.lst ys])) =
      .nx [some (.ref 1), some (.str t), some (.int d), some (.int pz'), some (.ref (i + 1 + 1)), x5, x6, x7, some (.ref (g.length + 2)), y9, y10] (z :: c' :: (g.set i (pu r') ++ [.lst ys'])) ∧ (∀ y ∈ ys', Sg t e y) ∧ ys'.length ≤ ys.length + ds.length ∧ ys.length ≤ ys'.length ∧ (0 < ds.length → 0 < r → ys.length < ys'.length) ∧ r' + ((ys'.map (partsD e)).flatten).length = r + ((ys.map (partsD e)).flatten).length ∧ Pn (b + 20 * r') c'
  | [], b, r, pz, c, g, ys, x5, x6, x7, x9, x10, hg, r24, yl, hy, hp => ⟨pz, r, c, ys, x9, x10, by rw [set_same hg]; rfl, hy, by simp, Nat.le_refl _, fun h => absurd h (by simp), rfl, hp⟩
  | dd :: ds, b, r, pz, c, g, ys, x5, x6, x7, x9, x10, hg, r24, yl, hy, hp => by
    rw [List.length_cons] at yl
    have il : i < g.length := (List.getElem?_eq_some_iff.mp hg).1
    have rix : dIx (.ref (i + 1 + 1)) (.int 0) (z :: c :: (g ++ [.lst ys])) = .ok (.int (r : Nat)) (z :: c :: (g ++ [.lst ys])) := dIx_ref (xs := [.int (r : Nat)]) (by
      show (g ++ [Cell.lst ys])[i]? = _
      rw [List.getElem?_append_left il]
      exact hg) (by omega) rfl
    rw [forL_cons (e1 := [some (.ref 1), some (.str t), some (.int d), some (.int pz), some (.ref (i + 1 + 1)), x5, x6, x7, some (.ref (g.length + 2)), some dd, x10]) rfl]
    by_cases r0 : 0 < r
    · obtain ⟨x, r', c1, e2, sx, rp, p1⟩ := ok b r i pz z c (g ++ [.lst ys]) (by rw [List.getElem?_append_left il]; exact hg) r0 r24 hp
      rw [set_app_lt il] at e2
      have wc := lweight_call e 24 sx.sh en (z :: c1 :: (g.set i (pu r') ++ [.lst ys]))
      have c0 : (z :: c1 :: (g.set i (pu r') ++ [Cell.lst ys]))[g.length + 2]? = some (.lst ys) := by
        show (g.set i (pu r') ++ [Cell.lst ys])[g.length]? = _
        rw [show g.length = (g.set i (pu r')).length by rw [List.length_set], get_last]
      have ty := tyD_ref c0
      have ap := append_at (y := x) c0 (by omega)
      have se : (z :: c1 :: (g.set i (pu r') ++ [Cell.lst ys])).set (g.length + 2) (.lst (ys ++ [x])) = z :: c1 :: (g.set i (pu r') ++ [.lst (ys ++ [x])]) := by
        show z :: c1 :: (g.set i (pu r') ++ [Cell.lst ys]).set g.length _ = _
        rw [show g.length = (g.set i (pu r')).length by rw [List.length_set], set_last]
      rw [se] at ap
      obtain ⟨pz', r'', c', ys', y9, y10, ih, h1, h2, h3, h4, h5, h6⟩ := parts_loop ok e1 en (i := i) dm ds b r' (pz - weightD e x) c1 (g.set i (pu r')) (ys ++ [x]) x5 x6 x7 (some dd) (some x) (get_setC hg) (by omega) (by rw [List.length_append, List.length_singleton]; omega) (fun y hy' => by
        rcases List.mem_append.mp hy' with h | h
        · exact hy y h
        · rw [List.mem_singleton] at h
          rw [h]
          exact sx) p1
      rw [List.set_set, List.length_set] at ih
      rw [List.length_append, List.length_singleton] at h2 h3
      refine ⟨pz', r'', c', ys', y9, y10, ?_, h1, by rw [List.length_cons]; omega, by omega, fun _ _ => by omega, ?_, h6⟩
      · have q0 : (0 : Int) < (r : Nat) := by omega
        have e3 : b__law_shape_1 (m__law_shape n) [some (.ref 1), some (.str t), some (.int d), some (.int pz), some (.ref (i + 1 + 1)), x5, x6, x7, some (.ref (g.length + 2)), some dd, x10] (z :: c :: (g ++ [.lst ys])) = .nx [some (.ref 1), some (.str t), some (.int d), some (.int (pz - weightD e x)), some (.ref (i + 1 + 1)), x5, x6, x7, some (.ref (g.length + 2)), some dd, some x] (z :: c1 :: (g.set i (pu r') ++ [.lst (ys ++ [x])])) := by
          unfold b__law_shape_1
          generalize g.set i (pu r') ++ [Cell.lst (ys ++ [x])] = G2 at *
          generalize g.set i (pu r') ++ [Cell.lst ys] = G1 at *
          generalize g ++ [Cell.lst ys] = G0 at *
          generalize g.length + 2 = N at *
          rw [← dm] at e2
          simp [rix, r0, q0, e2, wc, ty, ap]
        rw [e3, on_nx]
        exact ih
      · rw [List.map_append, List.flatten_append, List.length_append] at h5
        simp only [List.map_cons, List.map_nil, List.flatten_cons, List.flatten_nil, List.append_nil] at h5
        omega
    · have r0' : ¬ (0 : Int) < (r : Nat) := by omega
      obtain ⟨pz', r'', c', ys', y9, y10, ih, h1, h2, h3, h4, h5, h6⟩ := parts_loop ok e1 en (i := i) dm ds b r pz c g ys x5 x6 x7 (some dd) x10 hg r24 (by omega) hy hp
      refine ⟨pz', r'', c', ys', y9, y10, ?_, h1, by rw [List.length_cons]; omega, h3, fun _ h => absurd h r0, h5, h6⟩
      have e3 : b__law_shape_1 (m__law_shape n) [some (.ref 1), some (.str t), some (.int d), some (.int pz), some (.ref (i + 1 + 1)), x5, x6, x7, some (.ref (g.length + 2)), some dd, x10] (z :: c :: (g ++ [.lst ys])) = .nx [some (.ref 1), some (.str t), some (.int d), some (.int pz), some (.ref (i + 1 + 1)), x5, x6, x7, some (.ref (g.length + 2)), some dd, x10] (z :: c :: (g ++ [.lst ys])) := by
        unfold b__law_shape_1
        generalize g ++ [Cell.lst ys] = G0 at *
        generalize g.length + 2 = N at *
        simp [rix, r0, r0']
      rw [e3, on_nx]
      exact ih
end
theorem kshape {t : List Nat} (tg : Tgn t) : ∀ (e n : Nat), 1 ≤ e → e ≤ n → e ≤ 5 → ShOk t e n
  | 0, _, h, _, _ => by omega
  | e + 1, 0, _, h, _ => by omega
  | e + 1, n + 1, _, en, e5 => fun b r i pz z c g hg r1 r24 hp => by
    rw [m__law_shape_succ]
    have il : i < g.length := (List.getElem?_eq_some_iff.mp hg).1
    have hg1 : (g.set i (pu (r - 1)))[i]? = some (pu (r - 1)) := get_setC hg
    have gl : getL (.ref (i + 1 + 1)) (.int 0) (z :: c :: g) = some (.int (r : Nat)) := getL_ref (xs := [.int (r : Nat)]) hg (by omega) rfl
    have pt : putD (.ref (i + 1 + 1)) (.int 0) (.int ((r : Nat) - 1)) (z :: c :: g) = some (z :: c :: g.set i (pu (r - 1))) := by
      have hh : (z :: c :: g)[i + 1 + 1]? = some (.lst [.int (r : Nat)]) := hg
      rw [putD_ref hh (by omega) (by simp), show ((r : Nat) : Int) - 1 = ((r - 1 : Nat) : Int) by omega]
      rfl
    have Gs : ∀ v, (g.set i (pu (r - 1))).set i v = g.set i v := fun v => List.set_set ..
    have gll : (g.set i (pu (r - 1))).length = g.length := List.length_set
    obtain ⟨u, c1, e1, u1, p1⟩ := draw_call (b := b + 19 + 20 * (r - 1)) (z := z) (c := c) (g := g.set i (pu (r - 1))) (m := 9) (hp.mono (by omega)) (by omega) (by omega)
    have rix : ∀ c : Cell, dIx (.ref (i + 1 + 1)) (.int 0) (z :: c :: g.set i (pu (r - 1))) = .ok (.int ((r - 1 : Nat) : Int)) (z :: c :: g.set i (pu (r - 1))) := fun c => dIx_ref (xs := [.int ((r - 1 : Nat) : Int)]) hg1 (by omega) rfl
    have a1 : (msAugI dISub (mVar 4) (mC (.int 0)) (mC (.int 1))) [some (.ref 1), some (.str t), some (.int ((e + 1 : Nat) : Int)), some (.int pz), some (.ref (i + 1 + 1)), none, none, none, none, none, none] (z :: c :: g) = .nx [some (.ref 1), some (.str t), some (.int ((e + 1 : Nat) : Int)), some (.int pz), some (.ref (i + 1 + 1)), none, none, none, none, none, none] (z :: c :: g.set i (pu (r - 1))) := by
      generalize ((e + 1 : Nat) : Int) = d at *
      simp [gl, pt]
    generalize hG : g.set i (pu (r - 1)) = G at *
    have a2 : (msSet 5 (mCall 2 (m__law_draw) (mCons (mVar 0) (mCons (mC (.int 9)) (mNil))))) [some (.ref 1), some (.str t), some (.int ((e + 1 : Nat) : Int)), some (.int pz), some (.ref (i + 1 + 1)), none, none, none, none, none, none] (z :: c :: G) = .nx [some (.ref 1), some (.str t), some (.int ((e + 1 : Nat) : Int)), some (.int pz), some (.ref (i + 1 + 1)), some (.int (u : Nat)), none, none, none, none, none] (z :: c1 :: G) := by
      generalize ((e + 1 : Nat) : Int) = d at *
      simp [e1]
    have lenG : ∀ c' : Cell, (z :: c :: g).length = (z :: c' :: G).length := fun c' => by simp [← gll]
    by_cases leaf : e + 1 = 1 ∨ r - 1 < 1 ∨ u = 0
    · -- a leaf
      have cond : (mOr (mTb (mOp (dEq false) (mVar 2) (mC (.int 1)))) (mOr (mTb (mOp dLt (mOp dIx (mVar 4) (mC (.int 0))) (mC (.int 1)))) (mTb (mOp (dEq false) (mVar 5) (mC (.int 0)))))) [some (.ref 1), some (.str t), some (.int ((e + 1 : Nat) : Int)), some (.int pz), some (.ref (i + 1 + 1)), some (.int (u : Nat)), none, none, none, none, none] (z :: c1 :: G) = .ok true (z :: c1 :: G) := by
        have rx := rix c1
        by_cases q1 : e + 1 = 1
        · have q1' : ((e + 1 : Nat) : Int) = 1 := by omega
          rw [q1']
          simp
        · have q1' : ¬ ((e + 1 : Nat) : Int) = 1 := by omega
          generalize ((e + 1 : Nat) : Int) = d at *
          by_cases q2 : r - 1 < 1
          · have q2' : ((r - 1 : Nat) : Int) < 1 := by omega
            generalize ((r - 1 : Nat) : Int) = rr at *
            simp [q1', rx, q2']
          · have q2' : ¬ ((r - 1 : Nat) : Int) < 1 := by omega
            have q3 : u = 0 := by omega
            generalize ((r - 1 : Nat) : Int) = rr at *
            simp [q1', rx, q2', q3]
      obtain ⟨v, c2, e2, v1, p2⟩ := draw_call (b := b + 18 + 20 * (r - 1)) (z := z) (c := c1) (g := G) (m := 8) (p1.mono (by omega)) (by omega) (by omega)
      by_cases row : pz = 0 ∨ v = 0
      · have : ∃ c3, Pn (b + 18 + 20 * (r - 1)) c3 ∧ (mOr (mTb (mOp (dEq false) (mVar 3) (mC (.int 0)))) (mTb (mOp (dEq false) (mCall 2 (m__law_draw) (mCons (mVar 0) (mCons (mC (.int 8)) (mNil)))) (mC (.int 0))))) [some (.ref 1), some (.str t), some (.int ((e + 1 : Nat) : Int)), some (.int pz), some (.ref (i + 1 + 1)), some (.int (u : Nat)), none, none, none, none, none] (z :: c1 :: G) = .ok true (z :: c3 :: G) := by
          generalize ((e + 1 : Nat) : Int) = d at *
          by_cases q1 : pz = 0
          · exact ⟨c1, p1.mono (by omega), by simp [q1]⟩
          · have q2 : v = 0 := by omega
            subst q2
            have e2 : callC 2 m__law_draw [.ref 1, .int 8] (z :: c1 :: G) = .ok (.int 0) (z :: c2 :: G) := e2
            exact ⟨c2, p2, by simp [q1, e2]⟩
        obtain ⟨c3, p3, cr⟩ := this
        refine ⟨.tup [.str kRow, .tup []], r - 1, c3, callC_len rfl ?_ (by simp), .row (by simp) (by simp), ?_, p3.mono (by omega)⟩
        · rw [hG]
          unfold B__law_shape
          rw [ap_fnM]
          simp only [List.map_cons, List.map_nil, List.length_cons, List.length_nil, List.cons_append, List.nil_append, Nat.reduceAdd, Nat.reduceSub, List.replicate]
          refine stN a1 (stN a2 (stR (h' := z :: c3 :: G) ?_))
          rw [ap_msIf, cond, bindS_ok]
          show msCons _ _ _ _ = _
          refine stRS ?_
          rw [ap_msIf, cr, bindS_ok]
          simp [kRow]
        · show r - 1 + (_ :: ((innerD _).map (partsD e)).flatten).length = r
          rw [innerD_row]
          simp
          omega
      · have q1 : ¬ pz = 0 := fun h => row (.inl h)
        have q2 : ¬ v = 0 := fun h => row (.inr h)
        have q2' : ¬ (v : Int) = 0 := by omega
        obtain ⟨s, c3, e3, s1, s6, sn, ss, p3⟩ := ones_call (b := b + 9 + 20 * (r - 1)) (z := z) (c := c2) (g := G) tg (p2.mono (by omega))
        have cr : (mOr (mTb (mOp (dEq false) (mVar 3) (mC (.int 0)))) (mTb (mOp (dEq false) (mCall 2 (m__law_draw) (mCons (mVar 0) (mCons (mC (.int 8)) (mNil)))) (mC (.int 0))))) [some (.ref 1), some (.str t), some (.int ((e + 1 : Nat) : Int)), some (.int pz), some (.ref (i + 1 + 1)), some (.int (u : Nat)), none, none, none, none, none] (z :: c1 :: G) = .ok false (z :: c2 :: G) := by
          generalize ((e + 1 : Nat) : Int) = d at *
          simp [q1, e2, q2, q2']
        refine ⟨.tup [.str kOne, .str s], r - 1, c3, callC_len rfl ?_ (by simp), .one s1 s6 sn ss, by rw [parts_one]; simp; omega, p3.mono (by omega)⟩
        rw [hG]
        unfold B__law_shape
        rw [ap_fnM]
        simp only [List.map_cons, List.map_nil, List.length_cons, List.length_nil, List.cons_append, List.nil_append, Nat.reduceAdd, Nat.reduceSub, List.replicate]
        refine stN a1 (stN a2 (stR (h' := z :: c3 :: G) ?_))
        rw [ap_msIf, cond, bindS_ok]
        show msCons _ _ _ _ = _
        refine stS (env2 := [some (.ref 1), some (.str t), some (.int ((e + 1 : Nat) : Int)), some (.int pz), some (.ref (i + 1 + 1)), some (.int (u : Nat)), none, none, none, none, none]) (h2 := z :: c2 :: G) ?_ ?_
        · rw [ap_msIf, cr, bindS_ok]
          rfl
        generalize ((e + 1 : Nat) : Int) = d at *
        simp [e3, kOne]
    · have e0 : 1 ≤ e := by omega
      have r2 : 2 ≤ r := by omega
      have u0 : ¬ u = 0 := fun h => leaf (.inr (.inr h))
      have u0' : ¬ (u : Int) = 0 := by omega
      have ok := kshape tg e n e0 (by omega) (by omega)
      have dm : ((e + 1 : Nat) : Int) - 1 = (e : Nat) := by omega
      have a3 : ∀ s1 : MS, (msIf (mOr (mTb (mOp (dEq false) (mVar 2) (mC (.int 1)))) (mOr (mTb (mOp dLt (mOp dIx (mVar 4) (mC (.int 0))) (mC (.int 1)))) (mTb (mOp (dEq false) (mVar 5) (mC (.int 0)))))) s1 (msNil)) [some (.ref 1), some (.str t), some (.int ((e + 1 : Nat) : Int)), some (.int pz), some (.ref (i + 1 + 1)), some (.int (u : Nat)), none, none, none, none, none] (z :: c1 :: G) = .nx [some (.ref 1), some (.str t), some (.int ((e + 1 : Nat) : Int)), some (.int pz), some (.ref (i + 1 + 1)), some (.int (u : Nat)), none, none, none, none, none] (z :: c1 :: G) := fun s1 => by
        have rx := rix c1
        have q1' : ¬ ((e + 1 : Nat) : Int) = 1 := by omega
        have q2' : ¬ ((r - 1 : Nat) : Int) < 1 := by omega
        generalize ((e + 1 : Nat) : Int) = d at *
        generalize ((r - 1 : Nat) : Int) = rr at *
        simp [q1', rx, q2', u0, u0']
      by_cases u3 : u < 3
      · have u3' : (u : Int) < 3 := by omega
        obtain ⟨x, r', c2, e2, sx, rp, p2⟩ := ok b (r - 1) i pz z c1 G hg1 (by omega) (by omega) (p1.mono (by omega))
        have GG : G.set i (pu r') = g.set i (pu r') := Gs _
        rw [GG] at e2
        refine ⟨.tup [.str kMany, x], r', c2, callC_len rfl ?_ (by simp), .many sx, ?_, p2⟩
        · unfold B__law_shape
          rw [ap_fnM]
          simp only [List.map_cons, List.map_nil, List.length_cons, List.length_nil, List.cons_append, List.nil_append, Nat.reduceAdd, Nat.reduceSub, List.replicate]
          refine stN a1 (stN a2 (stN (a3 _) (stR (h' := z :: c2 :: g.set i (pu r')) ?_)))
          rw [← dm] at e2
          generalize ((e + 1 : Nat) : Int) = d at *
          simp [u3, u3', e2, kMany]
        · show r' + (_ :: ((innerD _).map (partsD e)).flatten).length = r
          rw [innerD_many]
          simp
          omega
      · have u3' : ¬ (u : Int) < 3 := by omega
        by_cases u5 : u < 5
        · have u5' : (u : Int) < 5 := by omega
          obtain ⟨hi, c2, e2, hi1, p2⟩ := draw_call (b := b + 18 + 20 * (r - 1)) (z := z) (c := c1) (g := G) (m := 5) (p1.mono (by omega)) (by omega) (by omega)
          obtain ⟨lo, c3, e3, lo1, p3⟩ := draw_call (b := b + 17 + 20 * (r - 1)) (z := z) (c := c2) (g := G) (m := (hi : Nat) + 1) (p2.mono (by omega)) (by omega) (by omega)
          obtain ⟨x, r', c4, e4, sx, rp, p4⟩ := ok b (r - 1) i (pz / (if (hi : Int) > 1 then (hi : Int) else 1)) z c3 G hg1 (by omega) (by omega) (p3.mono (by omega))
          have GG : G.set i (pu r') = g.set i (pu r') := Gs _
          rw [GG] at e4
          have cd : cDiv pz (if (hi : Int) > 1 then (hi : Int) else 1) = true := by
            simp only [cDiv, Bool.and_eq_true, decide_eq_true_eq]
            split <;> omega
          refine ⟨.tup [.str kTim, x, .int (lo : Nat), .int (hi : Nat)], r', c4, callC_len rfl ?_ (by simp), .times sx (by omega) (by omega) (by omega), ?_, p4⟩
          · unfold B__law_shape
            rw [ap_fnM]
            simp only [List.map_cons, List.map_nil, List.length_cons, List.length_nil, List.cons_append, List.nil_append, Nat.reduceAdd, Nat.reduceSub, List.replicate]
            refine stN a1 (stN a2 (stN (a3 _) ?_))
            rw [← dm] at e4
            generalize ((e + 1 : Nat) : Int) = d at *
            refine stN (env2 := [some (.ref 1), some (.str t), some (.int d), some (.int pz), some (.ref (i + 1 + 1)), some (.int (u : Nat)), none, none, none, none, none]) (h2 := z :: c1 :: G) (by simp [u3, u3']) ?_
            refine stR (h' := z :: c4 :: g.set i (pu r')) ?_
            rw [ap_msIf, show mTb (mOp dLt (mVar 5) (mC (.int 5))) [some (.ref 1), some (.str t), some (.int d), some (.int pz), some (.ref (i + 1 + 1)), some (.int (u : Nat)), none, none, none, none, none] (z :: c1 :: G) = .ok true (z :: c1 :: G) by simp [u5, u5'], bindS_ok]
            show msCons _ _ _ _ = _
            refine stS (env2 := [some (.ref 1), some (.str t), some (.int d), some (.int pz), some (.ref (i + 1 + 1)), some (.int (u : Nat)), some (.int (hi : Nat)), none, none, none, none]) (h2 := z :: c2 :: G) (by simp [e2]) ?_
            refine stS (env2 := [some (.ref 1), some (.str t), some (.int d), some (.int pz), some (.ref (i + 1 + 1)), some (.int (u : Nat)), some (.int (hi : Nat)), some (.int (lo : Nat)), none, none, none]) (h2 := z :: c3 :: G) (by simp [e3]) ?_
            generalize hm : (if (hi : Int) > 1 then (hi : Int) else 1) = mx at *
            have bm : bMax2 [.int 1, .int (hi : Nat)] (z :: c3 :: G) = .ok (.int mx) (z :: c3 :: G) := by rw [bMax2_int, hm]
            simp [-bMax2_int, bm, cd, e4, kTim]
          · show r' + (_ :: ((innerD _).map (partsD e)).flatten).length = r
            rw [innerD_times]
            simp
            omega
        · have u5' : ¬ (u : Int) < 5 := by omega
          obtain ⟨w, c2, e2, w1, p2⟩ := draw_call (b := b + 18 + 20 * (r - 1)) (z := z) (c := c1) (g := G ++ [.lst []]) (m := 8) (p1.mono (by omega)) (by omega) (by omega)
          obtain ⟨m, em, m1, m6⟩ : ∃ m : Nat, (∀ h, dIx (.tup [.int 1, .int 2, .int 2, .int 3, .int 3, .int 4, .int 5, .int 6]) (.int (w : Nat)) h = .ok (.int (m : Nat)) h) ∧ 1 ≤ m ∧ m ≤ 6 := by
            have : w = 0 ∨ w = 1 ∨ w = 2 ∨ w = 3 ∨ w = 4 ∨ w = 5 ∨ w = 6 ∨ w = 7 := by omega
            rcases this with rfl | rfl | rfl | rfl | rfl | rfl | rfl | rfl
            · exact ⟨1, fun h => dIx_nat (xs := [.int 1, .int 2, .int 2, .int 3, .int 3, .int 4, .int 5, .int 6]) rfl rfl, by omega, by omega⟩
            · exact ⟨2, fun h => dIx_nat (xs := [.int 1, .int 2, .int 2, .int 3, .int 3, .int 4, .int 5, .int 6]) rfl rfl, by omega, by omega⟩
            · exact ⟨2, fun h => dIx_nat (xs := [.int 1, .int 2, .int 2, .int 3, .int 3, .int 4, .int 5, .int 6]) rfl rfl, by omega, by omega⟩
            · exact ⟨3, fun h => dIx_nat (xs := [.int 1, .int 2, .int 2, .int 3, .int 3, .int 4, .int 5, .int 6]) rfl rfl, by omega, by omega⟩
            · exact ⟨3, fun h => dIx_nat (xs := [.int 1, .int 2, .int 2, .int 3, .int 3, .int 4, .int 5, .int 6]) rfl rfl, by omega, by omega⟩
            · exact ⟨4, fun h => dIx_nat (xs := [.int 1, .int 2, .int 2, .int 3, .int 3, .int 4, .int 5, .int 6]) rfl rfl, by omega, by omega⟩
            · exact ⟨5, fun h => dIx_nat (xs := [.int 1, .int 2, .int 2, .int 3, .int 3, .int 4, .int 5, .int 6]) rfl rfl, by omega, by omega⟩
            · exact ⟨6, fun h => dIx_nat (xs := [.int 1, .int 2, .int 2, .int 3, .int 3, .int 4, .int 5, .int 6]) rfl rfl, by omega, by omega⟩
          obtain ⟨pz', r', c3, ys, y9, y10, lp, h1, h2, h3, h4, h5, h6⟩ := parts_loop ok e0 (by omega) (i := i) (z := z) dm (intsFrom 0 m) b (r - 1) pz c2 G [] (some (.int (u : Nat))) none none none none hg1 (by omega) (by rw [ints_len]; simp; omega) (by simp) (p2.mono (by omega))
          rw [ints_len] at h2 h4
          simp only [List.length_nil, List.map_nil, List.flatten_nil] at h2 h4 h5
          have y1 : 1 ≤ ys.length := h4 (by omega) (by omega)
          have GG : G.set i (pu r') = g.set i (pu r') := Gs _
          rw [GG] at lp
          obtain ⟨kk, ekk, kc⟩ : ∃ kk : List Nat, (∀ h : IH, dIx (.tup [.str kRow, .str kEit]) (.int ((u : Int) / 7)) h = .ok (.str kk) h) ∧ (kk = kRow ∨ kk = kEit) := by
            by_cases q : u < 7
            · have : (u : Int) / 7 = 0 := by omega
              exact ⟨kRow, fun h => by rw [this]; exact dIx_seq (xs := [.str kRow, .str kEit]) rfl (by omega) rfl, .inl rfl⟩
            · have : (u : Int) / 7 = 1 := by omega
              exact ⟨kEit, fun h => by rw [this]; exact dIx_seq (xs := [.str kRow, .str kEit]) rfl (by omega) rfl, .inr rfl⟩
          have tx : bTupleX [.ref (G.length + 2)] (z :: c3 :: (g.set i (pu r') ++ [.lst ys])) = .ok (.tup ys) (z :: c3 :: (g.set i (pu r') ++ [.lst ys])) := bTupleX_ref (by
            show (g.set i (pu r') ++ [Cell.lst ys])[G.length]? = _
            rw [show G.length = (g.set i (pu r')).length by rw [List.length_set, gll], get_last])
          have cut : ∀ x : D, (∀ n, x.lo n = true) → B__law_shape (m__law_shape n) [.ref 1, .str t, .int ((e + 1 : Nat) : Int), .int pz, .ref (i + 1 + 1)] (z :: c :: g) = .ok x (z :: c3 :: (g.set i (pu r') ++ [.lst ys])) → callC 5 (B__law_shape (m__law_shape n)) [.ref 1, .str t, .int ((e + 1 : Nat) : Int), .int pz, .ref (i + 1 + 1)] (z :: c :: g) = .ok x (z :: c3 :: g.set i (pu r')) := fun x lo h => callC_cut (h' := z :: c3 :: g.set i (pu r')) (g := [.lst ys]) rfl h (by simp) (lo _) ⟨.inl rfl, .inr (h6.lo _), okB_set (by simp [pu])⟩
          refine ⟨.tup [.str kk, .tup ys], r', c3, cut _ (fun n => by
            simp
            exact loL_of fun y hy => (h1 y hy).lo _) ?_, ?_, ?_, h6⟩
          · unfold B__law_shape
            rw [ap_fnM]
            simp only [List.map_cons, List.map_nil, List.length_cons, List.length_nil, List.cons_append, List.nil_append, Nat.reduceAdd, Nat.reduceSub, List.replicate]
            refine stN a1 (stN a2 (stN (a3 _) ?_))
            generalize ((e + 1 : Nat) : Int) = d at *
            refine stN (env2 := [some (.ref 1), some (.str t), some (.int d), some (.int pz), some (.ref (i + 1 + 1)), some (.int (u : Nat)), none, none, none, none, none]) (h2 := z :: c1 :: G) (by simp [u3, u3']) ?_
            refine stN (env2 := [some (.ref 1), some (.str t), some (.int d), some (.int pz), some (.ref (i + 1 + 1)), some (.int (u : Nat)), none, none, none, none, none]) (h2 := z :: c1 :: G) (by simp [u5, u5']) ?_
            refine stN (env2 := [some (.ref 1), some (.str t), some (.int d), some (.int pz), some (.ref (i + 1 + 1)), some (.int (u : Nat)), none, none, some (.ref (G.length + 2)), none, none]) (h2 := z :: c1 :: (G ++ [.lst []])) (by simp [newL]) ?_
            refine stN (env2 := [some (.ref 1), some (.str t), some (.int d), some (.int pz'), some (.ref (i + 1 + 1)), some (.int (u : Nat)), none, none, some (.ref (G.length + 2)), y9, y10]) (h2 := z :: c3 :: (g.set i (pu r') ++ [.lst ys])) ((for_st (ds := intsFrom 0 m) (h2 := z :: c2 :: (G ++ [.lst []])) (iRange1_of (j := (m : Nat)) (k := m) (by simp [e2, em]) rfl (by omega))).trans lp) ?_
            rw [lRow, lEit]
            generalize g.set i (pu r') ++ [Cell.lst ys] = G2 at *
            generalize G.length + 2 = N at *
            have c7 : cDiv (u : Nat) 7 = true := by simp [cDiv]
            simp [c7, ekk, tx]
          · rcases kc with rfl | rfl
            · exact .row (by omega) h1
            · exact .eit (by omega) y1 h1
          · rcases kc with rfl | rfl
            · show r' + (_ :: ((innerD _).map (partsD e)).flatten).length = r
              rw [innerD_row, List.length_cons]
              omega
            · show r' + (_ :: ((innerD _).map (partsD e)).flatten).length = r
              rw [innerD_eit, List.length_cons]
              omega
end NR

set_option Elab.async false
set_option linter.all false
set_option maxRecDepth 100000
set_option maxHeartbeats 4000000
namespace NR
open PySem PySem.Spec PyProof.Rows L2
theorem encs_map : ∀ {l : List Sh}, Sh.encs l = l.map Sh.enc
  | [] => rfl
  | s :: l => by rw [List.map_cons, ← encs_map]; rfl
/-- a drawn shape, plainly -/
theorem sh_of {t : List Nat} {d : Nat} {x : D} (h : Sg t d x) : ∃ s : Sh, s.enc = x ∧ ShD d s := by
  induction h with
  | @one d s n1 n6 nd sub => exact ⟨.one s, rfl, .one⟩
  | @row d l n h ih =>
    have : ∀ (l : List D), (∀ y ∈ l, ∃ s : Sh, s.enc = y ∧ ShD d s) → ∃ ss : List Sh, Sh.encs ss = l ∧ ∀ s ∈ ss, ShD d s := by
      intro l
      induction l with
      | nil => exact fun _ => ⟨[], rfl, by simp⟩
      | cons y l ihl =>
        intro hy
        obtain ⟨s, e1, e2⟩ := hy y List.mem_cons_self
        obtain ⟨ss, e3, e4⟩ := ihl fun z hz => hy z (List.mem_cons_of_mem _ hz)
        refine ⟨s :: ss, by rw [← e1, ← e3]; rfl, fun z hz => ?_⟩
        rcases List.mem_cons.mp hz with rfl | hz
        · exact e2
        · exact e4 z hz
    obtain ⟨ss, e1, e2⟩ := this l ih
    exact ⟨.row ss, by rw [← e1]; rfl, .row e2 (by rw [← e1, encs_map, List.length_map] at n; exact n)⟩
  | @eit d l n n1 h ih =>
    have : ∀ (l : List D), (∀ y ∈ l, ∃ s : Sh, s.enc = y ∧ ShD d s) → ∃ ss : List Sh, Sh.encs ss = l ∧ ∀ s ∈ ss, ShD d s := by
      intro l
      induction l with
      | nil => exact fun _ => ⟨[], rfl, by simp⟩
      | cons y l ihl =>
        intro hy
        obtain ⟨s, e1, e2⟩ := hy y List.mem_cons_self
        obtain ⟨ss, e3, e4⟩ := ihl fun z hz => hy z (List.mem_cons_of_mem _ hz)
        refine ⟨s :: ss, by rw [← e1, ← e3]; rfl, fun z hz => ?_⟩
        rcases List.mem_cons.mp hz with rfl | hz
        · exact e2
        · exact e4 z hz
    obtain ⟨ss, e1, e2⟩ := this l ih
    exact ⟨.eit ss, by rw [← e1]; rfl, .eit e2 (by rw [← e1, encs_map, List.length_map] at n; exact n)⟩
  | @many d y h ih =>
    obtain ⟨s, e1, e2⟩ := ih
    exact ⟨.many s, by rw [← e1]; rfl, .many e2⟩
  | @times d y lo hi h l0 lh h4 ih =>
    obtain ⟨s, e1, e2⟩ := ih
    refine ⟨.tim s lo.toNat hi.toNat, ?_, .tim e2 (by omega) (by omega)⟩
    rw [← e1]
    show D.tup [.str kTim, s.enc, .int (lo.toNat : Nat), .int (hi.toNat : Nat)] = _
    rw [show ((lo.toNat : Nat) : Int) = lo by omega, show ((hi.toNat : Nat) : Int) = hi by omega]
theorem wt_enc : ∀ {d : Nat} {s : Sh}, ShD d s → weightD d s.enc = (s.wt : Nat)
  | 0, s, h => by cases h
  | d + 1, s, h => by
    have sum : ∀ (l : List Sh), (∀ y ∈ l, ShD d y) → ((Sh.encs l).map (weightD d)).sum = (Sh.wts l : Nat) := by
      intro l
      induction l with
      | nil => exact fun _ => rfl
      | cons y l ih =>
        intro hy
        rw [show Sh.encs (y :: l) = y.enc :: Sh.encs l from rfl, List.map_cons, List.sum_cons, ih fun z hz => hy z (List.mem_cons_of_mem _ hz), wt_enc (hy y List.mem_cons_self)]
        show _ = ((y.wt + Sh.wts l : Nat) : Int)
        omega
    cases h with
    | one => rfl
    | row h => exact sum _ h
    | eit h => exact sum _ h
    | @many _ y h =>
      show (([y.enc] : List D).map (weightD d)).sum = _
      rw [List.map_cons, List.map_nil, List.sum_cons, List.sum_nil, wt_enc h]
      show _ = ((y.wt : Nat) : Int)
      omega
    | @tim _ y lo hi h lh h4 =>
      show ((hi : Nat) : Int) * (([y.enc] : List D).map (weightD d)).sum = _
      rw [List.map_cons, List.map_nil, List.sum_cons, List.sum_nil, wt_enc h]
      show _ = ((hi * y.wt : Nat) : Int)
      simp
end NR

set_option Elab.async false
set_option linter.all false
set_option maxRecDepth 100000
set_option maxHeartbeats 4000000
namespace NR
open PySem PySem.Spec PyProof.Rows L2
/-! ### a new plan -/
def plH (H : IH) : IH := H ++ [.ins "Plan" (plF (H.length + 1) (H.length + 3)), .lst [.str []], .lst [], .lst [.ref (H.length + 2)]]
theorem new_plan (H : IH) : callC 1 m_Plan___init__ [.ref H.length] (H ++ [.ins "Plan" []]) = .ok .non (plH H) := by
  have l0 : (H ++ [Cell.ins "Plan" []]).length = H.length + 1 := by simp
  have st : ∀ (fs : List (Str × D)) (f : Str) (d : D) (g : IH), fs.length ≤ 100 → putAtF "Plan" f d (H ++ Cell.ins "Plan" fs :: g) (.ref H.length) = some (H ++ Cell.ins "Plan" (putFD f d fs) :: g) := fun fs f d g l => by
    rw [putAtF_ref (c := "Plan") (fs := fs) (get_app0) l, set_app0]
    rfl
  have p1 := st [] "marks" (.ref (H.length + 1)) [.lst [.str []]] (by simp)
  have p2 := st [("marks", .ref (H.length + 1))] "nexts" (.ref (H.length + 3)) [.lst [.str []], .lst [], .lst [.ref (H.length + 2)]] (by simp)
  refine callC_keep2 (n := H.length) (c0 := .ins "Plan" []) (c1 := .ins "Plan" (plF (H.length + 1) (H.length + 3))) rfl ?_ get_app0 get_app0 (fun z => ?_) ?_
  · unfold m_Plan___init__
    rw [ap_fnM]
    simp only [List.map_cons, List.map_nil, List.length_cons, List.length_nil, List.cons_append, List.nil_append, Nat.reduceAdd, Nat.reduceSub, List.replicate]
    refine stN (env2 := [some (.ref H.length)]) (h2 := H ++ [Cell.ins "Plan" [("marks", .ref (H.length + 1))], .lst [.str []]]) (by
      simp [newL, p1]
      rfl) ?_
    simp [newL, p2]
    rfl
  · injection z with z1 z2
    cases z2
  · rw [l0]
    show D.loL (H.length + 1) [D.ref (H.length + 1), D.ref (H.length + 3)] = false
    simp [D.loL, D.lo]
theorem new_pl (H : IH) : Pl (plH H) H.length (H.length + 1) (H.length + 3) [[]] [H.length + 2] [[]] := by
  unfold plH
  refine ⟨get_app0, by simp, by simp, rfl, rfl, fun i r w hr hw => ?_, by simp, by omega, by simp, by simp⟩
  cases i with
  | zero =>
    cases hr
    cases hw
    simp
  | succ i => simp at hr
end NR

set_option Elab.async false
set_option linter.all false
set_option maxRecDepth 100000
set_option maxHeartbeats 4000000
namespace NR
open PySem PySem.Spec PyProof.Rows L2
theorem isrt_filter {w : List Nat} {P : Nat → Bool} {N : Nat} (nd : w.Nodup) (m : ∀ q, q ∈ w ↔ P q = true) (b : ∀ q, P q = true → q ≤ N) : isrt (w.map fun (x : Nat) => (x : Int)) = ((List.range (N + 1)).filter P).map fun (x : Nat) => (x : Int) := by
  symm
  refine isrt_eq ?_ ?_
  · refine List.Perm.map _ ((List.perm_ext_iff_of_nodup ?_ nd).mpr fun q => ?_)
    · exact (List.nodup_range).filter _
    · rw [List.mem_filter, List.mem_range, m]
      constructor
      · exact fun z => z.2
      · exact fun z => ⟨by have := b q z; omega, z⟩
  · rw [List.pairwise_map]
    refine List.Pairwise.filter _ ?_
    have := List.pairwise_lt_range (n := N + 1)
    exact this.imp fun h => by omega
theorem nats_ints {l : List Nat} : l.map nD = (l.map fun (x : Nat) => (x : Int)).map D.int := by
  rw [List.map_map]
  rfl
theorem sorted_row {h : IH} {r : Nat} {w : List Nat} (e : h[r]? = some (.lst (w.map nD))) : bSorted [.ref r] h = newL h ((isrt (w.map fun (x : Nat) => (x : Int))).map D.int) := by
  rw [nats_ints] at e
  have l := lstOf_ref e
  have : bSorted [.ref r] h = bSorted [.fl ((w.map fun (x : Nat) => (x : Int)).map D.int)] h := by
    show (match (lstOf h (.ref r)).bind (allM D.int?) with
      | some ns => NR.R.ok (D.ref h.length) (h ++ [Cell.lst ((isrt ns).map D.int)])
      | none => NR.R.no) = _
    rw [l]
    rfl
  rw [this, bSorted_fl]
end NR

set_option Elab.async false
set_option linter.all false
set_option maxRecDepth 100000
set_option maxHeartbeats 4000000
namespace NR
open PySem PySem.Spec PyProof.Rows L2
theorem weight_call : ∀ (d n : Nat) (x : D), IsSh d x → d ≤ n → ∀ h : IH, callC 1 (m_weight n) [x] h = .ok (.int (weightD d x)) h
  | 0, _, _, s, _, _ => by cases s
  | d + 1, 0, _, _, l, _ => by omega
  | d + 1, n + 1, x, s, l, h => by
    obtain ⟨il, ih⟩ := s.inner
    have ic := inner_call s h
    have comp := lcF_map (h := h) (env := [some x, none, none]) (it := iSeq (mCall 1 (m_inner) (mCons (mVar 0) (mNil)))) (ws := [2]) (gg := gSet 2) (m := e_weight_1 (m_weight n)) (ds := innerD x) (fun y => .int (weightD d y)) (by simp [ic]) (by omega) (fun y _ => rfl) (fun y hy => ⟨_, rfl, fun w => by
      have := weight_call d n y (ih y hy) (by omega) (h ++ [w])
      unfold e_weight_1
      simp [wipeE, gSet, this]⟩)
    have e2 : (innerD x).map (fun y => D.int (weightD d y)) = ((innerD x).map (weightD d)).map D.int := by
      rw [List.map_map]
      rfl
    rw [e2] at comp
    rw [m_weight_succ]
    refine callC_same rfl ?_
    unfold B_weight
    rw [lOne, lTim]
    generalize mFz (mLc (iSeq (mCall 1 (m_inner) (mCons (mVar 0) (mNil)))) (gSet 2) mYes (e_weight_1 (m_weight n)) [2]) = F at comp
    unfold weightD
    cases s with
    | one =>
      rename_i s
      simp [t0 h (l := [.str kOne, .str s]) rfl]
    | row n1 hh =>
      rename_i l'
      generalize hS : ((innerD (.tup [.str kRow, .tup l'])).map (weightD d)) = W at *
      simp [t0 h (l := [.str kRow, .tup l']) rfl, comp, hS]
    | eit n1 hh =>
      rename_i l'
      generalize hS : ((innerD (.tup [.str kEit, .tup l'])).map (weightD d)) = W at *
      simp [t0 h (l := [.str kEit, .tup l']) rfl, comp, hS]
    | many hh =>
      rename_i p
      generalize hS : ((innerD (.tup [.str kMany, p])).map (weightD d)) = W at *
      simp [t0 h (l := [.str kMany, p]) rfl, comp, hS]
    | times hh h0 h4 =>
      rename_i p lo hi
      generalize hS : ((innerD (.tup [.str kTim, p, .int lo, .int hi])).map (weightD d)) = W at *
      have cm : cMul hi W.sum = true := by simp [cMul]; omega
      simp [t0 h (l := [.str kTim, p, .int lo, .int hi]) rfl, t3 h (l := [.str kTim, p, .int lo, .int hi]) rfl, comp, cm, hS]
/-! the spread -/
section
variable {H : IH} {d : Nat} {s : Sh}
/-- a row of the spread, sorted -/
def spR (s : Sh) (i : Nat) : List Nat := (List.range (s.wt + 1)).filter fun q => if i = 0 then s.bg q 0 else s.fo i q 0
def spL (s : Sh) : List Nat := (List.range (s.wt + 1)).filter fun q => s.en q 0 || (s.em && decide (q = 0))
def spD (s : Sh) : D := .tup [.tup (([] :: s.mk).map D.str), .tup ((List.range (s.wt + 1)).map fun i => .tup ((spR s i).map nD)), .tup ((spL s).map nD)]
theorem spL_usrt {L : List Nat} (h : ∀ q, q ∈ L ↔ s.en q 0 = true) : usrt ((if s.em = true then 0 :: L else L).map fun (x : Nat) => (x : Int)) = (spL s).map fun (x : Nat) => (x : Int) := by
  symm
  refine usrt_eq ?_ fun k => ?_
  · unfold spL
    rw [List.pairwise_map]
    refine List.Pairwise.filter _ ?_
    exact (List.pairwise_lt_range (n := s.wt + 1)).imp fun h => by omega
  · unfold spL
    simp only [List.mem_map, List.mem_filter, List.mem_range, Bool.or_eq_true, Bool.and_eq_true, decide_eq_true_eq]
    constructor
    · rintro ⟨q, ⟨_, h1⟩, rfl⟩
      refine ⟨q, ?_, rfl⟩
      rcases h1 with h1 | ⟨h1, rfl⟩
      · split
        · exact List.mem_cons_of_mem _ ((h q).mpr h1)
        · exact (h q).mpr h1
      · rw [if_pos h1]
        exact List.mem_cons_self
    · rintro ⟨q, hq, rfl⟩
      refine ⟨q, ?_, rfl⟩
      split at hq
      · rename_i e
        rcases List.mem_cons.mp hq with rfl | hq
        · exact ⟨by omega, .inr ⟨e, rfl⟩⟩
        · have := (h q).mp hq
          have b := Sh.en_in this
          exact ⟨by omega, .inl this⟩
      · have := (h q).mp hq
        have b := Sh.en_in this
        exact ⟨by omega, .inl this⟩
theorem spL_len : (spL s).length ≤ s.wt + 1 := by
  unfold spL
  exact Nat.le_trans (List.length_filter_le _ _) (by simp)
end
end NR

set_option Elab.async false
set_option linter.all false
set_option maxRecDepth 100000
set_option maxHeartbeats 4000000
namespace NR
open PySem PySem.Spec PyProof.Rows L2
section
variable {H : IH} {d : Nat} {s : Sh}
def rowF (H : IH) : D → D
  | .ref r => match H[r]? with
    | some (.lst xs) => match allM D.int? xs with
      | some ns => .tup ((isrt ns).map D.int)
      | none => .non
    | _ => .non
  | _ => .non
theorem rowF_at {H : IH} {r : Nat} {w : List Nat} (e : H[r]? = some (.lst (w.map nD))) : rowF H (.ref r) = .tup ((isrt (w.map fun (x : Nat) => (x : Int))).map D.int) := by
  unfold rowF
  dsimp only
  rw [e, nats_ints]
  dsimp only
  have : allM D.int? ((w.map fun (x : Nat) => (x : Int)).map D.int) = some (w.map fun (x : Nat) => (x : Int)) := by
    generalize (w.map fun (x : Nat) => (x : Int)) = ns
    induction ns with
    | nil => rfl
    | cons n ns ih =>
      rw [List.map_cons]
      unfold allM
      rw [ih]
      rfl
  rw [this]
/-- the rows told, sorted -/
theorem nexts_told {p a b : Nat} {mk : List (List Nat)} {rs : List Nat} {rows : List (List Nat)} (P : Pl H p a b mk rs rows) (rl : rows.length ≤ 1000) {env : EV} (e : mFld "Plan" "nexts" (mVar 1) env H = .ok (.ref b) H) (w6 : ∀ r, gSet 6 (.ref r) (wipeE env [6]) = some ((wipeE env [6]).set 6 (some (.ref r)))) (g6 : ∀ r h, mVar 6 ((wipeE env [6]).set 6 (some (.ref r))) h = .ok (.ref r) h) :
    mFz (mLc (iSeq (mFld "Plan" "nexts" (mVar 1))) (gSet 6) mYes e_spread_1 [6]) env H = .ok (.fl ((rs.map D.ref).map (rowF H))) H := by
  have na : ∀ x : Cell, (H ++ [x])[b]? = some (.lst (rs.map D.ref)) := fun x => get_old P.na
  have ln := P.len
  refine lcF_mapS (src := .ls b) (ds := rs.map D.ref) (rowF H) (iSeq_ls e P.na) (fun x => (src_ls (na x)).1) (fun x i => (src_ls (na x)).2.1 i) (src_ls P.na).2.2 (by rw [List.length_map]; omega) (fun x hx => ?_) fun x hx => ?_
  · obtain ⟨r, hr, rfl⟩ := List.mem_map.mp hx
    obtain ⟨i, hi⟩ := List.mem_iff_getElem?.mp hr
    have il := (List.getElem?_eq_some_iff.mp hi).1
    rw [rowF_at (P.row i r _ hi (List.getElem?_eq_getElem (by omega)))]
    simp only [D.lo]
    exact loL_of fun y hy => by
      obtain ⟨z, _, rfl⟩ := List.mem_map.mp hy
      rfl
  · obtain ⟨r, hr, rfl⟩ := List.mem_map.mp hx
    obtain ⟨i, hi⟩ := List.mem_iff_getElem?.mp hr
    have il := (List.getElem?_eq_some_iff.mp hi).1
    have row := P.row i r _ hi (List.getElem?_eq_getElem (show i < rows.length by omega))
    refine ⟨_, w6 r, fun x => ?_⟩
    have rowx : (H ++ [x])[r]? = _ := get_old row
    rw [rowF_at row]
    have so := sorted_row rowx
    have z : fzD (H ++ [x]) (H ++ [x]) ((isrt (rows[i].map fun (x : Nat) => (x : Int))).map D.int) = .ok (.fl ((isrt (rows[i].map fun (x : Nat) => (x : Int))).map D.int)) (H ++ [x]) := fzD_same (loL_of fun y hy => by
      obtain ⟨z, _, rfl⟩ := List.mem_map.mp hy
      rfl)
    have g := g6 r (H ++ [x])
    generalize (isrt (rows[i].map fun (x : Nat) => (x : Int))).map D.int = SO at *
    generalize (wipeE env [6]).set 6 (some (.ref r)) = EE at *
    unfold e_spread_1
    rw [ap_mB, ap_mCons, ap_mFz0, ap_mB, ap_mCons, g]
    simp [so, fz_newL, z]
end
end NR

set_option Elab.async false
set_option linter.all false
set_option maxRecDepth 100000
set_option maxHeartbeats 4000000
namespace NR
open PySem PySem.Spec PyProof.Rows L2
section
variable {H : IH} {d : Nat} {s : Sh}
theorem allM_nats (w : List Nat) : allM D.int? (w.map nD) = some (w.map fun (x : Nat) => (x : Int)) := by
  induction w with
  | nil => rfl
  | cons n ns ih =>
    rw [List.map_cons]
    unfold allM
    rw [ih]
    rfl
theorem ss_told {h : IH} {me : ME} {env : EV} {x : D} {w : List Nat} (e : me env h = .ok x h) (l : lstOf h x = some (w.map nD)) (n1 : w.length ≤ 4000) (n2 : (usrt (w.map fun (x : Nat) => (x : Int))).length < 64) : mFz (mSS me) env h = .ok (.fl ((usrt (w.map fun (x : Nat) => (x : Int))).map D.int)) h := by
  have z : fzD h h ((usrt (w.map fun (x : Nat) => (x : Int))).map D.int) = .ok (.fl ((usrt (w.map fun (x : Nat) => (x : Int))).map D.int)) h := fzD_same (loL_of fun y hy => by
    obtain ⟨z, _, rfl⟩ := List.mem_map.mp hy
    rfl)
  have ev : mSS me env h = newL h ((usrt (w.map fun (x : Nat) => (x : Int))).map D.int) := by
    unfold mSS
    rw [e, bind_ok, l, Option.bind_some, allM_nats]
    dsimp only
    rw [if_pos ⟨by rw [List.length_map]; exact n1, n2⟩]
    rfl
  rw [ap_mFz0, ev, fz_newL, z]
theorem spread_call (hs : ShD d s) (sh : IsSh d s.enc) (d6 : d ≤ 6) (w10 : s.wt ≤ 10) (H : IH) : callC 1 m_spread [s.enc] H = .ok (spD s) H := by
  have wc := weight_call d 24 s.enc sh (by omega) H
  rw [wt_enc hs] at wc
  have np := new_plan H
  have lpl : (plH H).length = H.length + 4 := by simp [plH]
  obtain ⟨H1, f, l, F, L, rs, rows, e1, R, g1, g2, sp⟩ := laid_all d 24 s hs d6 (by omega) (plH H) H.length (H.length + 1) (H.length + 3) [[]] [H.length + 2] [[]] (new_pl H) (fun w hw => by
    rw [List.mem_singleton] at hw
    subst hw
    exact ⟨by simp, by simp⟩) (by simp) (by simp; omega) w10
  have len1 := sp.len
  have old1 := sp.old
  have new1 := sp.new
  have hF := sp.hF
  have hL := sp.hL
  have bF := sp.bF
  have bL := sp.bL
  have ww : s.wt * s.wt ≤ 100 := Nat.mul_le_mul w10 w10
  have hF' : ∀ q, q ∈ F ↔ s.bg q 0 = true := hF
  have hL' : ∀ q, q ∈ L ↔ s.en q 0 = true := hL
  obtain ⟨H2, rows2, e2, P2, ok2, ⟨l2, lk⟩, len2, fr2⟩ := link_call (dP := .fl ([0].map nD)) (pl := [0]) R.P R.ok (.inl rfl) R.hf (fun i hi => by
    rw [List.mem_singleton] at hi
    subst hi
    rw [len1]
    simp
    omega) (fun q hq => by
    have := Sh.bg_in ((hF' q).mp hq)
    omega)
  have hl2 := R.hl.keep fr2 Ext2.refl
  -- all that stood stays
  have pre : ∃ g, H2 = H ++ g := by
    refine ⟨H2.drop H.length, ?_⟩
    have ht : H2.take H.length = H := by
      apply List.ext_getElem?
      intro i
      rw [List.getElem?_take]
      split
      · rename_i hi
        have e0 : (plH H)[i]? = some H[i] := by unfold plH; exact get_old (List.getElem?_eq_getElem hi)
        have e3 := R.fr.2 i _ e0 (by
          rintro (z | z | z)
          · omega
          · omega
          · rw [List.mem_singleton] at z; omega)
        have e4 := fr2.2 i _ e3 (by
          obtain ⟨new, rfl, hn⟩ := R.ex
          rintro (z | z | z)
          · omega
          · omega
          · rcases List.mem_append.mp z with z | z
            · rw [List.mem_singleton] at z; omega
            · have := hn i z; omega)
        rw [e4, List.getElem?_eq_getElem hi]
      · rw [List.getElem?_eq_none (by omega)]
    conv => lhs; rw [← List.take_append_drop H.length H2, ht]
  obtain ⟨g, hg⟩ := pre
  -- the lasts
  have z0 : fzD H2 H2 [.int 0] = .ok (.fl [.int 0]) H2 := fzD_same rfl
  have z1 : fzD H1 H1 [.int 0] = .ok (.fl [.int 0]) H1 := fzD_same rfl
  obtain ⟨l3, el, hl3⟩ : ∃ l3, msIf (mTr (mVar 4)) (msSet 3 (mFz (mOp dAdd (mFz (mLst (mCons (mC (.int 0)) (mNil)))) (mVar 3)))) (msNil) [some s.enc, some (.ref H.length), some f, some l, some (.bl s.em), none, none] H2 = .nx [some s.enc, some (.ref H.length), some f, some l3, some (.bl s.em), none, none] H2 ∧ LsP H2 (H.length + 1) (H.length + 3) rs l3 (if s.em = true then 0 :: L else L) := by
    cases s.em with
    | true =>
      have fa := fz_ls (a := H.length + 1) (b := H.length + 3) (rs := rs) (xs := [0]) (d := .fl ([0].map nD)) (.inl rfl) hl2 (by simp; omega)
      refine ⟨.fl ((0 :: L).map nD), ?_, .inl rfl⟩
      have fa : fzR H2 (dAdd (.fl [.int 0]) l H2) = .ok (.fl ((0 :: L).map nD)) H2 := fa
      generalize (0 :: L).map nD = LL at *
      simp [ap_mFz0, newL_bind, fz_newL, z0, fa]
    | false => exact ⟨l, by simp, hl2⟩
  have ll3 : lstOf H2 l3 = some ((if s.em = true then 0 :: L else L).map nD) := by
    rcases hl3 with rfl | ⟨n, rfl, h, _⟩
    · rfl
    · exact lstOf_ref h
  have us := spL_usrt (s := s) hL'
  have l3l : (if s.em = true then 0 :: L else L).length ≤ 4000 := by
    split
    · rw [List.length_cons]; omega
    · omega
  have usl : (usrt ((if s.em = true then 0 :: L else L).map fun (x : Nat) => (x : Int))).length < 64 := by
    rw [us, List.length_map]
    have := spL_len (s := s)
    omega
  -- the rows
  have rl2 : rs.length = rows2.length := P2.len
  have len1' : rows.length = 1 + s.wt := len1
  have rowsE : (rs.map D.ref).map (rowF H2) = (List.range (s.wt + 1)).map fun i => .tup ((spR s i).map nD) := by
    apply List.ext_getElem?
    intro i
    rw [List.map_map, List.getElem?_map, List.getElem?_map]
    by_cases hi : i < s.wt + 1
    · have ir : i < rs.length := by omega
      have i2 : i < rows2.length := by omega
      have i1 : i < rows.length := by omega
      rw [List.getElem?_eq_getElem ir, List.getElem?_range hi]
      have row := P2.row i rs[i] rows2[i] (List.getElem?_eq_getElem ir) (List.getElem?_eq_getElem i2)
      show some (rowF H2 (.ref rs[i])) = some (.tup ((spR s i).map nD))
      rw [rowF_at row, nats_ints]
      have nd := (ok2 rows2[i] (List.getElem_mem i2)).1
      obtain ⟨w0, e0, hm, _⟩ := lk i rows2[i] (List.getElem?_eq_getElem i2)
      have mm : ∀ q, q ∈ rows2[i] ↔ (if i = 0 then s.bg q 0 else s.fo i q 0) = true := fun q => by
        rw [hm]
        by_cases z : i = 0
        · subst z
          have o := old1 0 (by simp)
          rw [e0] at o
          have o : w0 = [] := by simpa using o
          subst o
          simp [hF']
        · rw [if_neg z, new1 i w0 (by simp; omega) e0 q]
          simp [z]
      rw [isrt_filter (N := s.wt) nd mm fun q hq => by
        split at hq
        · have := Sh.bg_in hq; omega
        · have := (Sh.fo_in hq).2; omega]
      rfl
    · rw [List.getElem?_eq_none (by omega), List.getElem?_eq_none (by rw [List.length_range]; omega)]
      rfl
  have ins_ : insAt "Plan" H2 (.ref H.length) = some (plF (H.length + 1) (H.length + 3)) := insAt_ref P2.pa
  have ins1 : insAt "Plan" H1 (.ref H.length) = some (plF (H.length + 1) (H.length + 3)) := insAt_ref R.P.pa
  have nl : noLook "link" (plF (H.length + 1) (H.length + 3)) = true := rfl
  have lm : List.lookup ("marks" : Str) (plF (H.length + 1) (H.length + 3)) = some (.ref (H.length + 1)) := rfl
  have lk2 : List.lookup ("nexts" : Str) (plF (H.length + 1) (H.length + 3)) = some (.ref (H.length + 3)) := rfl
  have nt := nexts_told (env := [some s.enc, some (.ref H.length), some f, some l3, some (.bl s.em), none, none]) P2 (by omega) (by simp [ins_, lk2]) (fun r => rfl) (fun r h => rfl)
  rw [rowsE] at nt
  have mt : bTupleX [.ref (H.length + 1)] H2 = .ok (.tup (([] :: s.mk).map D.str)) H2 := bTupleX_ref P2.ma
  have st := ss_told (me := mVar 3) (env := [some s.enc, some (.ref H.length), some f, some l3, some (.bl s.em), some (.tup ((List.range (s.wt + 1)).map fun i => .tup ((spR s i).map nD))), none]) (h := H2) (x := l3) rfl ll3 l3l usl
  rw [us, ← nats_ints] at st
  have gt : ¬ ((s.wt : Int) > 10) := by omega
  have lo : D.lo H.length (spD s) = true := by
    have a1 : D.loL H.length (([] :: s.mk).map D.str) = true := loL_of fun y hy => by
      obtain ⟨z, _, rfl⟩ := List.mem_map.mp hy
      rfl
    have a3 : D.loL H.length ((spL s).map nD) = true := loL_of fun y hy => by
      obtain ⟨z, _, rfl⟩ := List.mem_map.mp hy
      rfl
    have a2 : D.loL H.length ((List.range (s.wt + 1)).map fun i => .tup ((spR s i).map nD)) = true := loL_of fun y hy => by
      obtain ⟨z, _, rfl⟩ := List.mem_map.mp hy
      simp only [D.lo]
      exact loL_of fun y hy => by
        obtain ⟨z, _, rfl⟩ := List.mem_map.mp hy
        rfl
    unfold spD
    simp only [D.lo, D.loL, a1, a2, a3, Bool.and_self]
  refine callC_pure (g := g) rfl ?_ lo
  rw [← hg]
  unfold spD
  generalize (List.range (s.wt + 1)).map (fun i => D.tup ((spR s i).map nD)) = RW at *
  generalize (spL s).map nD = LS at *
  generalize ([] :: s.mk).map D.str = MK at *
  unfold m_spread
  rw [ap_fnM]
  simp only [List.map_cons, List.map_nil, List.length_cons, List.length_nil, List.cons_append, List.nil_append, Nat.reduceAdd, Nat.reduceSub, List.replicate]
  refine stN (env2 := [some s.enc, none, none, none, none, none, none]) (h2 := H) (by simp [wc, c_MOST_WEIGHT, gt]) ?_
  refine stN (env2 := [some s.enc, some (.ref H.length), none, none, none, none, none]) (h2 := plH H) (by simp [np]) ?_
  refine stN (env2 := [some s.enc, some (.ref H.length), some f, some l, some (.bl s.em), none, none]) (h2 := H1) (by simp [e1, gSets]) ?_
  refine stN (env2 := [some s.enc, some (.ref H.length), some f, some l, some (.bl s.em), none, none]) (h2 := H2) (by
    have e2 : callC 3 m_Plan_link [.ref H.length, .fl [.int 0], f] H1 = .ok .non H2 := e2
    generalize plF (H.length + 1) (H.length + 3) = FS at *
    simp [newL_bind, fz_newL, z1, ins1, nl, e2]) ?_
  refine stN el ?_
  refine stN (env2 := [some s.enc, some (.ref H.length), some f, some l3, some (.bl s.em), some (.tup RW), none]) (h2 := H2) (by
    generalize mFz (mLc (iSeq (mFld "Plan" "nexts" (mVar 1))) (gSet 6) mYes e_spread_1 [6]) = CC at *
    simp [nt]) ?_
  generalize mFz (mSS (mVar 3)) = SS3 at *
  generalize plF (H.length + 1) (H.length + 3) = FS at *
  simp [ins_, lm, mt, st]
end
end NR

set_option Elab.async false
set_option linter.all false
set_option maxRecDepth 100000
set_option maxHeartbeats 4000000
namespace NR
open PySem PySem.Spec PyProof.Rows L2
/-! ### the law's judging of shapes -/
/-- the parts as laid -/
def Sh.pts : Sh → List Sh
  | .one _ => []
  | .row l => l
  | .eit l => l
  | .many s => [s]
  | .tim s _ hi => List.replicate hi s
theorem encs_rep {s : Sh} : ∀ {k : Nat}, Sh.encs (List.replicate k s) = List.replicate k s.enc
  | 0 => rfl
  | k + 1 => by
    rw [List.replicate_succ, List.replicate_succ, ← encs_rep]
    rfl
theorem law_laid_call {d : Nat} {s : Sh} (hs : ShD d s) (no : ∀ x, s ≠ .one x) (h : IH) : callC 1 m__law_laid [s.enc] h = .ok (.tup (Sh.encs s.pts)) h := by
  have si := str_in h
  refine callC_same rfl ?_
  unfold m__law_laid
  rw [lRow, lEit, show ([109, 97, 110, 121] : List Nat) = kMany from rfl]
  cases hs with
  | one => exact absurd rfl (no _)
  | row hh =>
    unfold Sh.enc Sh.pts
    simp [ix0, ix1, si]
  | eit hh =>
    unfold Sh.enc Sh.pts
    simp [ix0, ix1, si]
  | many hh =>
    rename_i s
    unfold Sh.enc Sh.pts
    have n1 : ¬ kMany = kRow := by decide
    have n2 : ¬ kMany = kEit := by decide
    have e : Sh.encs [s] = [s.enc] := rfl
    rw [e]
    generalize s.enc = E at *
    simp [ix0, ix1, si, n1, n2]
  | tim hh lh h4 =>
    rename_i s lo hi
    unfold Sh.enc Sh.pts
    rw [encs_rep]
    have n1 : ¬ kTim = kRow := by decide
    have n2 : ¬ kTim = kEit := by decide
    have n3 : ¬ kTim = kMany := by decide
    have mz := dMulZ_one (v := s.enc) (k := hi) (h := h) (by omega)
    generalize s.enc = E at *
    simp [ix0, ix1, ix3, si, n1, n2, n3, mz]
end NR

set_option Elab.async false
set_option linter.all false
set_option maxRecDepth 100000
set_option maxHeartbeats 4000000
namespace NR
open PySem PySem.Spec PyProof.Rows L2
theorem sh_enc : ∀ {d : Nat} {s : Sh}, ShD d s → IsSh d s.enc
  | 0, s, h => by cases h
  | d + 1, s, h => by
    have all : ∀ (l : List Sh), (∀ y ∈ l, ShD d y) → ∀ x ∈ Sh.encs l, IsSh d x := by
      intro l hy x hx
      rw [encs_map] at hx
      obtain ⟨y, h1, rfl⟩ := List.mem_map.mp hx
      exact sh_enc (hy y h1)
    cases h with
    | one => exact .one
    | row h n => exact .row (by rw [encs_map, List.length_map]; omega) (all _ h)
    | eit h n => exact .eit (by rw [encs_map, List.length_map]; omega) (all _ h)
    | many h => exact .many (sh_enc h)
    | tim h lh h4 => exact .times (sh_enc h) (by omega) (by omega)
theorem lwt {d : Nat} {s : Sh} (hs : ShD d s) (d6 : d ≤ 6) (h : IH) : callC 1 (m__law_weight 24) [s.enc] h = .ok (.int (s.wt : Nat)) h := by
  rw [lweight_call d 24 (sh_enc hs) (by omega) h, wt_enc hs]
def Sh.key : Sh → List Nat
  | .one _ => kOne
  | .row _ => kRow
  | .eit _ => kEit
  | .many _ => kMany
  | .tim _ _ _ => kTim
theorem enc0 (s : Sh) (h : IH) : dIx s.enc (.int 0) h = .ok (.str s.key) h := by
  cases s with
  | _ => unfold Sh.enc; exact ix0
def Sh.isE : Sh → Bool
  | .eit _ => true
  | _ => false
theorem key_one {s : Sh} : s.key = kOne ↔ ∃ x, s = .one x := by
  constructor
  · intro h
    cases s with
    | one x => exact ⟨x, rfl⟩
    | row _ => exact absurd (show kRow = kOne from h) (by decide)
    | eit _ => exact absurd (show kEit = kOne from h) (by decide)
    | many _ => exact absurd (show kMany = kOne from h) (by decide)
    | tim _ _ _ => exact absurd (show kTim = kOne from h) (by decide)
  · rintro ⟨x, rfl⟩
    rfl
theorem key_eit {s : Sh} : decide (s.key = kEit) = s.isE := by cases s <;> rfl
theorem pts_shd {d : Nat} {s : Sh} (h : ShD (d + 1) s) : ∀ y ∈ s.pts, ShD d y := by
  cases h with
  | one => exact fun y hy => (by cases hy)
  | row h => exact h
  | eit h => exact h
  | many h => exact fun y hy => by rw [Sh.pts, List.mem_singleton] at hy; subst hy; exact h
  | tim h => exact fun y hy => by rw [Sh.pts, List.mem_replicate] at hy; rw [hy.2]; exact h
theorem pts_len {d : Nat} {s : Sh} (h : ShD d s) : s.pts.length ≤ 6 := by
  cases h with
  | one => simp [Sh.pts]
  | row h n => exact n
  | eit h n => exact n
  | many h => simp [Sh.pts]
  | tim h lh h4 => simp [Sh.pts]; omega
theorem key_tim {s : Sh} : s.key = kTim ↔ ∃ x lo hi, s = .tim x lo hi := by
  constructor
  · intro h
    cases s with
    | tim x lo hi => exact ⟨x, lo, hi, rfl⟩
    | one _ => exact absurd (show kOne = kTim from h) (by decide)
    | row _ => exact absurd (show kRow = kTim from h) (by decide)
    | eit _ => exact absurd (show kEit = kTim from h) (by decide)
    | many _ => exact absurd (show kMany = kTim from h) (by decide)
  · rintro ⟨x, lo, hi, rfl⟩
    rfl
def Sh.isM : Sh → Bool
  | .many _ => true
  | _ => false
theorem key_many {s : Sh} : decide (s.key = kMany) = s.isM := by cases s <;> rfl
theorem mks_rep {s : Sh} : ∀ {k : Nat}, Sh.mks (List.replicate k s) = (List.replicate k s.mk).flatten
  | 0 => rfl
  | k + 1 => by
    rw [List.replicate_succ, List.replicate_succ]
    show s.mk ++ Sh.mks (List.replicate k s) = _
    rw [mks_rep]
    rfl
theorem mk_pts {s : Sh} (no : ∀ x, s ≠ .one x) : Sh.mks s.pts = s.mk := by
  cases s with
  | one x => exact absurd rfl (no x)
  | row l => rfl
  | eit l => rfl
  | many s =>
    show s.mk ++ [] = s.mk
    simp
  | tim s lo hi => exact mks_rep
mutual
theorem mk_len : ∀ {s : Sh}, s.mk.length = s.wt
  | .one s => rfl
  | .row l => mks_len
  | .eit l => mks_len
  | .many s => mk_len (s := s)
  | .tim s lo hi => by
    show (List.replicate hi s.mk).flatten.length = hi * s.wt
    rw [List.length_flatten, List.map_replicate, List.sum_replicate_nat, mk_len (s := s)]
theorem mks_len : ∀ {l : List Sh}, (Sh.mks l).length = Sh.wts l
  | [] => rfl
  | s :: l => by
    show (s.mk ++ Sh.mks l).length = s.wt + Sh.wts l
    rw [List.length_append, mk_len (s := s), mks_len (l := l)]
end
theorem wts_rep {s : Sh} : ∀ {k : Nat}, Sh.wts (List.replicate k s) = k * s.wt
  | 0 => by simp [Sh.wts]
  | k + 1 => by
    rw [List.replicate_succ]
    show s.wt + Sh.wts (List.replicate k s) = _
    rw [wts_rep, Nat.add_mul]
    omega
theorem wt_pts {s : Sh} (no : ∀ x, s ≠ .one x) : Sh.wts s.pts = s.wt := by
  cases s with
  | one x => exact absurd rfl (no x)
  | row l => rfl
  | eit l => rfl
  | many s =>
    show s.wt + 0 = s.wt
    simp
  | tim s lo hi => exact wts_rep
theorem wts_mem {l : List Sh} {y : Sh} (h : y ∈ l) : y.wt ≤ Sh.wts l := by
  induction l with
  | nil => cases h
  | cons s l ih =>
    show y.wt ≤ s.wt + Sh.wts l
    rcases List.mem_cons.mp h with rfl | h
    · omega
    · have := ih h
      omega
end NR

set_option Elab.async false
set_option linter.all false
set_option maxRecDepth 100000
set_option maxHeartbeats 4000000
namespace NR
/-! ### courses, and what is known of them by their places -/
def chn (fo : Nat → Nat → Bool) (en : Nat → Bool) : Nat → List Nat → Bool
  | p, [] => en p
  | p, q :: R => fo p q && chn fo en q R
def loc (bg en : Nat → Bool) (fo : Nat → Nat → Bool) (em : Bool) : List Nat → Bool
  | [] => em
  | p :: R => bg p && chn fo en p R
inductive Star (L : List Nat → Prop) : List Nat → Prop
  | nil : Star L []
  | cons {R1 R2 : List Nat} (h : L R1) (t : Star L R2) : Star L (R1 ++ R2)
def TimC (L : Nat → List Nat → Prop) (w lo : Nat) : Nat → Nat → Nat → List Nat → Prop
  | 0, _, _, R => R = []
  | k + 1, i, a, R => (lo ≤ i ∧ R = []) ∨ ∃ R1 R2, R = R1 ++ R2 ∧ L a R1 ∧ TimC L w lo k (i + 1) (a + w) R2
mutual
def Sh.crs : Sh → Nat → List Nat → Prop
  | .one _, a, R => R = [a + 1]
  | .row l, a, R => Sh.crsS l a R
  | .eit l, a, R => Sh.crsO l a R
  | .many s, a, R => Star (fun R => s.crs a R) R
  | .tim s lo hi, a, R => TimC (fun b R => s.crs b R) s.wt lo hi 0 a R
def Sh.crsS : List Sh → Nat → List Nat → Prop
  | [], _, R => R = []
  | s :: l, a, R => ∃ R1 R2, R = R1 ++ R2 ∧ s.crs a R1 ∧ Sh.crsS l (a + s.wt) R2
def Sh.crsO : List Sh → Nat → List Nat → Prop
  | [], _, _ => False
  | s :: l, a, R => s.crs a R ∨ Sh.crsO l (a + s.wt) R
end
section
variable {bg1 en1 bg2 en2 bg en : Nat → Bool} {fo1 fo2 fo : Nat → Nat → Bool} {em1 em2 em : Bool} {m : Nat}
theorem bfalse {b : Bool} {P : Prop} (h : b = true → P) (n : ¬ P) : b = false := by
  cases b with
  | false => rfl
  | true => exact absurd (h rfl) n
theorem loc_cat (b1 : ∀ p, bg1 p = true → p ≤ m) (n1 : ∀ p, en1 p = true → p ≤ m) (f1 : ∀ p q, fo1 p q = true → p ≤ m ∧ q ≤ m) (b2 : ∀ p, bg2 p = true → m < p) (n2 : ∀ p, en2 p = true → m < p) (f2 : ∀ p q, fo2 p q = true → m < p ∧ m < q)
    (hb : ∀ p, bg p = (bg1 p || em1 && bg2 p)) (hn : ∀ p, en p = (en2 p || em2 && en1 p)) (hf : ∀ p q, fo p q = (fo1 p q || fo2 p q || en1 p && bg2 q)) (he : em = (em1 && em2)) {R : List Nat} :
    loc bg en fo em R = true ↔ ∃ R1 R2, R = R1 ++ R2 ∧ loc bg1 en1 fo1 em1 R1 = true ∧ loc bg2 en2 fo2 em2 R2 = true := by
  have chB : ∀ (R : List Nat) (q : Nat), m < q → chn fo en q R = chn fo2 en2 q R := by
    intro R
    induction R with
    | nil =>
      intro q hq
      show en q = en2 q
      rw [hn, bfalse (n1 q) (by omega)]
      simp
    | cons r R ih =>
      intro q hq
      show (fo q r && chn fo en r R) = (fo2 q r && chn fo2 en2 r R)
      rw [hf, bfalse (f1 q r) (by omega), bfalse (n1 q) (by omega)]
      cases h : fo2 q r with
      | false => simp
      | true =>
        rw [ih r (f2 q r h).2]
        simp
  have chA : ∀ (R : List Nat) (p : Nat), p ≤ m → (chn fo en p R = true ↔ ∃ R1 R2, R = R1 ++ R2 ∧ chn fo1 en1 p R1 = true ∧ loc bg2 en2 fo2 em2 R2 = true) := by
    intro R
    induction R with
    | nil =>
      intro p hp
      have : chn fo en p [] = (em2 && en1 p) := by
        show en p = _
        rw [hn, bfalse (n2 p) (by omega)]
        simp
      rw [this]
      constructor
      · intro h
        rw [Bool.and_eq_true] at h
        exact ⟨[], [], rfl, h.2, h.1⟩
      · rintro ⟨R1, R2, e, h1, h2⟩
        obtain ⟨rfl, rfl⟩ := List.append_eq_nil_iff.mp e.symm
        rw [Bool.and_eq_true]
        exact ⟨h2, h1⟩
    | cons q R ih =>
      intro p hp
      show (fo p q && chn fo en q R) = true ↔ _
      rw [hf, bfalse (f2 p q) (by omega), Bool.or_false, Bool.and_eq_true, Bool.or_eq_true, Bool.and_eq_true]
      constructor
      · rintro ⟨h | ⟨h, h'⟩, k⟩
        · obtain ⟨R1, R2, rfl, k1, k2⟩ := (ih q (f1 p q h).2).mp k
          refine ⟨q :: R1, R2, rfl, ?_, k2⟩
          show (fo1 p q && chn fo1 en1 q R1) = true
          rw [h, k1]
          rfl
        · refine ⟨[], q :: R, rfl, h, ?_⟩
          rw [chB R q (b2 q h')] at k
          show (bg2 q && chn fo2 en2 q R) = true
          rw [h', k]
          rfl
      · rintro ⟨R1, R2, e, h1, h2⟩
        cases R1 with
        | nil =>
          obtain rfl : q :: R = R2 := e
          have h2 : (bg2 q && chn fo2 en2 q R) = true := h2
          rw [Bool.and_eq_true] at h2
          refine ⟨.inr ⟨h1, h2.1⟩, ?_⟩
          rw [chB R q (b2 q h2.1)]
          exact h2.2
        | cons r R1 =>
          rw [List.cons_append] at e
          injection e with e1 e2
          subst e1
          have h1 : (fo1 p q && chn fo1 en1 q R1) = true := h1
          rw [Bool.and_eq_true] at h1
          exact ⟨.inl h1.1, (ih q (f1 p q h1.1).2).mpr ⟨R1, R2, e2, h1.2, h2⟩⟩
  cases R with
  | nil =>
    show em = true ↔ _
    rw [he, Bool.and_eq_true]
    constructor
    · intro h
      exact ⟨[], [], rfl, h.1, h.2⟩
    · rintro ⟨R1, R2, e, h1, h2⟩
      obtain ⟨rfl, rfl⟩ := List.append_eq_nil_iff.mp e.symm
      exact ⟨h1, h2⟩
  | cons p R =>
    show (bg p && chn fo en p R) = true ↔ _
    rw [hb, Bool.and_eq_true, Bool.or_eq_true, Bool.and_eq_true]
    constructor
    · rintro ⟨h | ⟨h, h'⟩, k⟩
      · obtain ⟨R1, R2, rfl, k1, k2⟩ := (chA R p (b1 p h)).mp k
        refine ⟨p :: R1, R2, rfl, ?_, k2⟩
        show (bg1 p && chn fo1 en1 p R1) = true
        rw [h, k1]
        rfl
      · refine ⟨[], p :: R, rfl, h, ?_⟩
        rw [chB R p (b2 p h')] at k
        show (bg2 p && chn fo2 en2 p R) = true
        rw [h', k]
        rfl
    · rintro ⟨R1, R2, e, h1, h2⟩
      cases R1 with
      | nil =>
        obtain rfl : p :: R = R2 := e
        have h2 : (bg2 p && chn fo2 en2 p R) = true := h2
        rw [Bool.and_eq_true] at h2
        refine ⟨.inr ⟨h1, h2.1⟩, ?_⟩
        rw [chB R p (b2 p h2.1)]
        exact h2.2
      | cons r R1 =>
        rw [List.cons_append] at e
        injection e with e1 e2
        subst e1
        have h1 : (bg1 p && chn fo1 en1 p R1) = true := h1
        rw [Bool.and_eq_true] at h1
        exact ⟨.inl h1.1, (chA R p (b1 p h1.1)).mpr ⟨R1, R2, e2, h1.2, h2⟩⟩
theorem loc_or (b1 : ∀ p, bg1 p = true → p ≤ m) (n1 : ∀ p, en1 p = true → p ≤ m) (f1 : ∀ p q, fo1 p q = true → p ≤ m ∧ q ≤ m) (b2 : ∀ p, bg2 p = true → m < p) (n2 : ∀ p, en2 p = true → m < p) (f2 : ∀ p q, fo2 p q = true → m < p ∧ m < q)
    (hb : ∀ p, bg p = (bg1 p || bg2 p)) (hn : ∀ p, en p = (en1 p || en2 p)) (hf : ∀ p q, fo p q = (fo1 p q || fo2 p q)) (he : em = (em1 || em2)) {R : List Nat} :
    loc bg en fo em R = true ↔ loc bg1 en1 fo1 em1 R = true ∨ loc bg2 en2 fo2 em2 R = true := by
  have chB : ∀ (R : List Nat) (q : Nat), m < q → chn fo en q R = chn fo2 en2 q R := by
    intro R
    induction R with
    | nil =>
      intro q hq
      show en q = en2 q
      rw [hn, bfalse (n1 q) (by omega)]
      simp
    | cons r R ih =>
      intro q hq
      show (fo q r && chn fo en r R) = (fo2 q r && chn fo2 en2 r R)
      rw [hf, bfalse (f1 q r) (by omega)]
      cases h : fo2 q r with
      | false => simp
      | true =>
        rw [ih r (f2 q r h).2]
        simp
  have chA : ∀ (R : List Nat) (q : Nat), q ≤ m → chn fo en q R = chn fo1 en1 q R := by
    intro R
    induction R with
    | nil =>
      intro q hq
      show en q = en1 q
      rw [hn, bfalse (n2 q) (by omega)]
      simp
    | cons r R ih =>
      intro q hq
      show (fo q r && chn fo en r R) = (fo1 q r && chn fo1 en1 r R)
      rw [hf, bfalse (f2 q r) (by omega)]
      cases h : fo1 q r with
      | false => simp
      | true =>
        rw [ih r (f1 q r h).2]
        simp
  cases R with
  | nil =>
    show em = true ↔ em1 = true ∨ em2 = true
    rw [he, Bool.or_eq_true]
  | cons p R =>
    show (bg p && chn fo en p R) = true ↔ (bg1 p && chn fo1 en1 p R) = true ∨ (bg2 p && chn fo2 en2 p R) = true
    rw [hb]
    cases h : bg1 p with
    | true =>
      rw [chA R p (b1 p h), bfalse (b2 p) (by have := b1 p h; omega)]
      simp
    | false =>
      cases h2 : bg2 p with
      | true => rw [chB R p (b2 p h2)]; simp
      | false => simp
theorem loc_star (hf : ∀ p q, fo p q = (fo1 p q || en1 p && bg1 q)) {R : List Nat} : loc bg1 en1 fo true R = true ↔ Star (fun R => loc bg1 en1 fo1 em1 R = true) R := by
  have ch : ∀ (R : List Nat) (p : Nat), chn fo en1 p R = true → ∃ R1 R2, R = R1 ++ R2 ∧ chn fo1 en1 p R1 = true ∧ Star (fun R => loc bg1 en1 fo1 em1 R = true) R2 := by
    intro R
    induction R with
    | nil => exact fun p h => ⟨[], [], rfl, h, .nil⟩
    | cons q R ih =>
      intro p h
      have h : (fo p q && chn fo en1 q R) = true := h
      rw [hf, Bool.and_eq_true, Bool.or_eq_true, Bool.and_eq_true] at h
      obtain ⟨R1, R2, rfl, k1, k2⟩ := ih q h.2
      rcases h.1 with g | ⟨g, g'⟩
      · refine ⟨q :: R1, R2, rfl, ?_, k2⟩
        show (fo1 p q && chn fo1 en1 q R1) = true
        rw [g, k1]
        rfl
      · refine ⟨[], (q :: R1) ++ R2, rfl, g, .cons ?_ k2⟩
        show (bg1 q && chn fo1 en1 q R1) = true
        rw [g', k1]
        rfl
  have bk : ∀ (R1 R2 : List Nat) (p : Nat), chn fo1 en1 p R1 = true → loc bg1 en1 fo true R2 = true → chn fo en1 p (R1 ++ R2) = true := by
    intro R1
    induction R1 with
    | nil =>
      intro R2 p h1 h2
      cases R2 with
      | nil => exact h1
      | cons q R2 =>
        have h2 : (bg1 q && chn fo en1 q R2) = true := h2
        rw [Bool.and_eq_true] at h2
        show (fo p q && chn fo en1 q R2) = true
        have h1 : en1 p = true := h1
        rw [hf, h1, h2.1, h2.2]
        simp
    | cons q R1 ih =>
      intro R2 p h1 h2
      have h1 : (fo1 p q && chn fo1 en1 q R1) = true := h1
      rw [Bool.and_eq_true] at h1
      show (fo p q && chn fo en1 q (R1 ++ R2)) = true
      rw [hf, h1.1, ih R2 q h1.2 h2]
      simp
  constructor
  · intro h
    cases R with
    | nil => exact .nil
    | cons p R =>
      have h : (bg1 p && chn fo en1 p R) = true := h
      rw [Bool.and_eq_true] at h
      obtain ⟨R1, R2, rfl, k1, k2⟩ := ch R p h.2
      refine .cons (R1 := p :: R1) ?_ k2
      show (bg1 p && chn fo1 en1 p R1) = true
      rw [h.1, k1]
      rfl
  · intro h
    induction h with
    | nil => rfl
    | @cons R1 R2 h1 _ ih =>
      cases R1 with
      | nil => exact ih
      | cons p R1 =>
        have h1 : (bg1 p && chn fo1 en1 p R1) = true := h1
        rw [Bool.and_eq_true] at h1
        show (bg1 p && chn fo en1 p (R1 ++ R2)) = true
        rw [h1.1, bk R1 R2 p h1.2 ih]
        rfl
end
theorem ens_b {p : Nat} : ∀ {l : List Sh} {a : Nat} {b : Bool}, Sh.ens p l a b = (Sh.ens p l a false || Sh.ems l && b)
  | [], a, b => by
    show b = (false || true && b)
    simp
  | s :: l, a, b => by
    show Sh.ens p l (a + s.wt) (b && s.em || s.en p a) = (Sh.ens p l (a + s.wt) (false && s.em || s.en p a) || (s.em && Sh.ems l) && b)
    rw [ens_b (l := l) (b := b && s.em || s.en p a), ens_b (l := l) (b := false && s.em || s.en p a)]
    cases b <;> cases s.em <;> cases s.en p a <;> cases Sh.ems l <;> simp
theorem fos_b {p q : Nat} : ∀ {l : List Sh} {a : Nat} {b : Bool}, Sh.fos p q l a b = (Sh.fos p q l a false || b && Sh.bgs q l a)
  | [], a, b => by
    show false = (false || b && false)
    simp
  | s :: l, a, b => by
    show (s.fo p q a || (b && s.bg q a) || Sh.fos p q l (a + s.wt) (b && s.em || s.en p a)) = ((s.fo p q a || (false && s.bg q a) || Sh.fos p q l (a + s.wt) (false && s.em || s.en p a)) || b && (s.bg q a || (s.em && Sh.bgs q l (a + s.wt))))
    rw [fos_b (l := l) (b := b && s.em || s.en p a), fos_b (l := l) (b := false && s.em || s.en p a)]
    cases b <;> cases s.em <;> cases s.en p a <;> cases s.fo p q a <;> cases s.bg q a <;> cases Sh.bgs q l (a + s.wt) <;> simp
theorem foK_b {f g h : Nat → Bool} {e : Bool} {w : Nat} : ∀ {k a : Nat} {b : Bool}, foK f g h e w k a b = (foK f g h e w k a false || b && bgK h e w k a)
  | 0, a, b => by
    show false = (false || b && false)
    simp
  | k + 1, a, b => by
    show (f a || (b && h a) || foK f g h e w k (a + w) (b && e || g a)) = ((f a || (false && h a) || foK f g h e w k (a + w) (false && e || g a)) || b && (h a || (e && bgK h e w k (a + w))))
    rw [foK_b (k := k) (b := b && e || g a), foK_b (k := k) (b := false && e || g a)]
    cases b <;> cases e <;> cases g a <;> cases f a <;> cases h a <;> cases bgK h _ w k (a + w) <;> simp
def Sh.lc (s : Sh) (a : Nat) (R : List Nat) : Bool := loc (fun p => s.bg p a) (fun p => s.en p a) (fun p q => s.fo p q a) s.em R
def emT (e : Bool) (lo : Nat) : Nat → Nat → Bool
  | 0, _ => true
  | _ + 1, i => decide (lo ≤ i) || e
theorem tim_loc {s : Sh} (ih : ∀ a R, s.crs a R ↔ s.lc a R = true) {lo : Nat} : ∀ (k i a : Nat) (R : List Nat), lo ≤ i + k → (TimC (fun b R => s.crs b R) s.wt lo k i a R ↔ loc (fun p => bgK (fun b => s.bg p b) s.em s.wt k a) (fun p => enT (fun b => s.en p b) s.em s.wt lo k (i + 1) a) (fun p q => foK (fun b => s.fo p q b) (fun b => s.en p b) (fun b => s.bg q b) s.em s.wt k a false) (emT s.em lo k i) R = true)
  | 0, i, a, R, _ => by
    cases R with
    | nil => exact ⟨fun _ => rfl, fun _ => rfl⟩
    | cons p R =>
      exact ⟨fun h => (by cases h), fun h => absurd (show false = true from h) (by decide)⟩
  | k + 1, i, a, R, hk => by
    have cat := loc_cat (R := R) (m := a + s.wt) (bg1 := fun p => s.bg p a) (en1 := fun p => s.en p a) (fo1 := fun p q => s.fo p q a) (em1 := s.em)
      (bg2 := fun p => bgK (fun b => s.bg p b) s.em s.wt k (a + s.wt)) (en2 := fun p => enT (fun b => s.en p b) s.em s.wt lo k (i + 1 + 1) (a + s.wt)) (fo2 := fun p q => foK (fun b => s.fo p q b) (fun b => s.en p b) (fun b => s.bg q b) s.em s.wt k (a + s.wt) false) (em2 := emT s.em lo k (i + 1))
      (bg := fun p => bgK (fun b => s.bg p b) s.em s.wt (k + 1) a) (en := fun p => enT (fun b => s.en p b) s.em s.wt lo (k + 1) (i + 1) a) (fo := fun p q => foK (fun b => s.fo p q b) (fun b => s.en p b) (fun b => s.bg q b) s.em s.wt (k + 1) a false) (em := s.em && emT s.em lo k (i + 1))
      (fun p h => (Sh.bg_in h).2) (fun p h => (Sh.en_in h).2) (fun p q h => ⟨(Sh.fo_in h).1.2, (Sh.fo_in h).2.2⟩)
      (fun p h => (bgK_in (fun b => Sh.bg_in (s := s)) h).1) (fun p h => (enT_in (fun b => Sh.en_in (s := s)) h).1) (fun p q h => by
        obtain ⟨z1, z2⟩ := foK_in (fun b h => Sh.fo_in (s := s) h) (fun b h => Sh.en_in (s := s) h) (fun b h => Sh.bg_in (s := s) h) h
        rcases z1 with z1 | z1
        · cases z1
        · exact ⟨z1.1, z2.1⟩)
      (fun p => rfl) (fun p => by
        show (s.en p a && (decide (lo ≤ i + 1) || s.em) || enT (fun b => s.en p b) s.em s.wt lo k (i + 1 + 1) (a + s.wt)) = _
        cases k with
        | zero =>
          have : lo ≤ i + 1 := by omega
          simp [emT, this, enT]
        | succ k =>
          show _ = (enT (fun b => s.en p b) s.em s.wt lo (k + 1) (i + 1 + 1) (a + s.wt) || (decide (lo ≤ i + 1) || s.em) && s.en p a)
          rw [Bool.or_comm, Bool.and_comm]) (fun p q => by
        show (s.fo p q a || (false && s.bg q a) || foK (fun b => s.fo p q b) (fun b => s.en p b) (fun b => s.bg q b) s.em s.wt k (a + s.wt) (false && s.em || s.en p a)) = _
        rw [foK_b]
        simp [Bool.or_assoc]) rfl
    have rest := fun R2 => tim_loc (lo := lo) ih k (i + 1) (a + s.wt) R2 (by omega)
    show ((lo ≤ i ∧ R = []) ∨ ∃ R1 R2, R = R1 ++ R2 ∧ s.crs a R1 ∧ TimC (fun b R => s.crs b R) s.wt lo k (i + 1) (a + s.wt) R2) ↔ _
    have cc : (∃ R1 R2, R = R1 ++ R2 ∧ loc (fun p => s.bg p a) (fun p => s.en p a) (fun p q => s.fo p q a) s.em R1 = true ∧ loc (fun p => bgK (fun b => s.bg p b) s.em s.wt k (a + s.wt)) (fun p => enT (fun b => s.en p b) s.em s.wt lo k (i + 1 + 1) (a + s.wt)) (fun p q => foK (fun b => s.fo p q b) (fun b => s.en p b) (fun b => s.bg q b) s.em s.wt k (a + s.wt) false) (emT s.em lo k (i + 1)) R2 = true) ↔ ∃ R1 R2, R = R1 ++ R2 ∧ s.crs a R1 ∧ TimC (fun b R => s.crs b R) s.wt lo k (i + 1) (a + s.wt) R2 := by
      constructor
      · rintro ⟨R1, R2, h0, h1, h2⟩
        exact ⟨R1, R2, h0, (ih a R1).mpr h1, (rest R2).mpr h2⟩
      · rintro ⟨R1, R2, h0, h1, h2⟩
        exact ⟨R1, R2, h0, (ih a R1).mp h1, (rest R2).mp h2⟩
    rw [← cc, ← cat]
    cases R with
    | cons p R =>
      show (lo ≤ i ∧ p :: R = []) ∨ _ ↔ _
      constructor
      · rintro (⟨_, h⟩ | h)
        · cases h
        · exact h
      · exact .inr
    | nil =>
      show (lo ≤ i ∧ _) ∨ (s.em && emT s.em lo k (i + 1)) = true ↔ (decide (lo ≤ i) || s.em) = true
      rw [Bool.or_eq_true, Bool.and_eq_true, decide_eq_true_eq]
      constructor
      · rintro (h | h)
        · exact .inl h.1
        · exact .inr h.1
      · rintro (h | h)
        · exact .inl ⟨h, rfl⟩
        · refine .inr ⟨h, ?_⟩
          cases k with
          | zero => rfl
          | succ k =>
            show (decide (lo ≤ i + 1) || s.em) = true
            rw [h]
            simp
theorem crs_loc : ∀ {d : Nat} {s : Sh}, ShD d s → ∀ (a : Nat) (R : List Nat), s.crs a R ↔ s.lc a R = true
  | 0, s, h, _, _ => by cases h
  | d + 1, s, hs, a, R => by
    cases hs with
    | one =>
      show R = [a + 1] ↔ _
      cases R with
      | nil => exact ⟨fun h => (by cases h), fun h => (by cases h)⟩
      | cons p R =>
        show _ ↔ (inR a 1 p && chn (fun p q => false) (fun p => inR a 1 p) p R) = true
        rw [Bool.and_eq_true, inR_iff]
        constructor
        · intro h
          injection h with h1 h2
          subst h1 h2
          exact ⟨by omega, inR_iff.mpr (by omega)⟩
        · rintro ⟨h, k⟩
          obtain rfl : p = a + 1 := by omega
          cases R with
          | nil => rfl
          | cons q R =>
            exact absurd (show false = true from k) (by decide)
    | @row _ l h n =>
      have lst : ∀ (l : List Sh), (∀ y ∈ l, ShD d y) → ∀ (a : Nat) (R : List Nat), Sh.crsS l a R ↔ loc (fun p => Sh.bgs p l a) (fun p => Sh.ens p l a false) (fun p q => Sh.fos p q l a false) (Sh.ems l) R = true := by
        intro l
        induction l with
        | nil =>
          intro _ a R
          cases R with
          | nil => exact ⟨fun _ => rfl, fun _ => rfl⟩
          | cons p R =>
            exact ⟨fun h => (by cases h), fun h => absurd (show false = true from h) (by decide)⟩
        | cons s l ih =>
          intro hy a R
          have cat := loc_cat (R := R) (m := a + s.wt) (bg1 := fun p => s.bg p a) (en1 := fun p => s.en p a) (fo1 := fun p q => s.fo p q a) (em1 := s.em)
            (bg2 := fun p => Sh.bgs p l (a + s.wt)) (en2 := fun p => Sh.ens p l (a + s.wt) false) (fo2 := fun p q => Sh.fos p q l (a + s.wt) false) (em2 := Sh.ems l)
            (bg := fun p => Sh.bgs p (s :: l) a) (en := fun p => Sh.ens p (s :: l) a false) (fo := fun p q => Sh.fos p q (s :: l) a false) (em := Sh.ems (s :: l))
            (fun p h => (Sh.bg_in h).2) (fun p h => (Sh.en_in h).2) (fun p q h => ⟨(Sh.fo_in h).1.2, (Sh.fo_in h).2.2⟩)
            (fun p h => (Sh.bgs_in h).1) (fun p h => by
              rcases Sh.ens_in h with z | z
              · cases z
              · exact z.1) (fun p q h => by
              obtain ⟨z1, z2⟩ := Sh.fos_in h
              rcases z1 with z1 | z1
              · cases z1
              · exact ⟨z1.1, z2.1⟩)
            (fun p => rfl) (fun p => by
              show Sh.ens p l (a + s.wt) (false && s.em || s.en p a) = _
              rw [ens_b]
              simp) (fun p q => by
              show (s.fo p q a || (false && s.bg q a) || Sh.fos p q l (a + s.wt) (false && s.em || s.en p a)) = _
              rw [fos_b]
              simp [Bool.or_assoc]) rfl
          refine Iff.trans ?_ cat.symm
          have i1 := fun R => crs_loc (hy s List.mem_cons_self) a R
          have i2 := fun R => ih (fun y hz => hy y (List.mem_cons_of_mem _ hz)) (a + s.wt) R
          constructor
          · rintro ⟨R1, R2, h0, h1, h2⟩
            exact ⟨R1, R2, h0, (i1 R1).mp h1, (i2 R2).mp h2⟩
          · rintro ⟨R1, R2, h0, h1, h2⟩
            exact ⟨R1, R2, h0, (i1 R1).mpr h1, (i2 R2).mpr h2⟩
      exact lst l h a R
    | @eit _ l h n =>
      have lst : ∀ (l : List Sh), (∀ y ∈ l, ShD d y) → ∀ (a : Nat) (R : List Nat), Sh.crsO l a R ↔ loc (fun p => Sh.bgo p l a) (fun p => Sh.eno p l a) (fun p q => Sh.foo p q l a) (Sh.emo l) R = true := by
        intro l
        induction l with
        | nil =>
          intro _ a R
          cases R with
          | nil => exact ⟨fun h => h.elim, fun h => (by cases h)⟩
          | cons p R =>
            exact ⟨fun h => h.elim, fun h => absurd (show false = true from h) (by decide)⟩
        | cons s l ih =>
          intro hy a R
          have cat := loc_or (R := R) (m := a + s.wt) (bg1 := fun p => s.bg p a) (en1 := fun p => s.en p a) (fo1 := fun p q => s.fo p q a) (em1 := s.em)
            (bg2 := fun p => Sh.bgo p l (a + s.wt)) (en2 := fun p => Sh.eno p l (a + s.wt)) (fo2 := fun p q => Sh.foo p q l (a + s.wt)) (em2 := Sh.emo l)
            (bg := fun p => Sh.bgo p (s :: l) a) (en := fun p => Sh.eno p (s :: l) a) (fo := fun p q => Sh.foo p q (s :: l) a) (em := Sh.emo (s :: l))
            (fun p h => (Sh.bg_in h).2) (fun p h => (Sh.en_in h).2) (fun p q h => ⟨(Sh.fo_in h).1.2, (Sh.fo_in h).2.2⟩)
            (fun p h => (Sh.bgo_in h).1) (fun p h => (Sh.eno_in h).1) (fun p q h => ⟨(Sh.foo_in h).1.1, (Sh.foo_in h).2.1⟩)
            (fun p => rfl) (fun p => rfl) (fun p q => rfl) rfl
          refine Iff.trans ?_ cat.symm
          have i1 := crs_loc (hy s List.mem_cons_self) a R
          have i2 := ih (fun y hz => hy y (List.mem_cons_of_mem _ hz)) (a + s.wt) R
          show s.crs a R ∨ Sh.crsO l (a + s.wt) R ↔ _
          rw [i1, i2]
          rfl
      exact lst l h a R
    | @many _ s h =>
      have i1 := fun R => crs_loc h a R
      have e : (fun R => s.crs a R) = fun R => s.lc a R = true := funext fun R => propext (i1 R)
      show Star (fun R => s.crs a R) R ↔ _
      rw [e]
      exact (loc_star fun p q => rfl).symm
    | @tim _ s lo hi h lh h4 =>
      have i1 := fun a R => crs_loc h a R
      have t := tim_loc i1 hi 0 a R (by omega : lo ≤ 0 + hi)
      have em : emT s.em lo hi 0 = Sh.em (.tim s lo hi) := by
        show _ = (decide (lo = 0) || s.em)
        cases hi with
        | zero =>
          obtain rfl : lo = 0 := by omega
          rfl
        | succ k =>
          show (decide (lo ≤ 0) || s.em) = _
          congr 1
          simp
      rw [em] at t
      exact t
end NR

set_option Elab.async false
set_option linter.all false
set_option maxRecDepth 100000
set_option maxHeartbeats 4000000
namespace NR
/-! ### stretches of a row -/
def seg (row : List Nat) (k e : Nat) : List Nat := (row.drop k).take (e - k)
def Cut (L : List Nat → Prop) (row : List Nat) (k e : Nat) : Prop := k ≤ e ∧ e ≤ row.length ∧ L (seg row k e)
section
variable {row : List Nat} {k m e : Nat} {L L1 L2 : List Nat → Prop}
theorem seg_len (h : e ≤ row.length) : (seg row k e).length = e - k := by
  unfold seg
  rw [List.length_take, List.length_drop]
  omega
theorem seg_self : seg row k k = [] := by
  unfold seg
  simp
theorem seg_app (h1 : k ≤ m) (h2 : m ≤ e) : seg row k e = seg row k m ++ seg row m e := by
  unfold seg
  rw [show e - k = (m - k) + (e - m) by omega, List.take_add, List.drop_drop, show k + (m - k) = m by omega]
theorem seg_all : seg row 0 row.length = row := by
  unfold seg
  simp
theorem seg_split (h1 : k ≤ e) (h2 : e ≤ row.length) {R1 R2 : List Nat} (h : seg row k e = R1 ++ R2) : k + R1.length ≤ e ∧ R1 = seg row k (k + R1.length) ∧ R2 = seg row (k + R1.length) e := by
  have l := congrArg List.length h
  rw [seg_len h2, List.length_append] at l
  have lm : k + R1.length ≤ e := by omega
  rw [seg_app (m := k + R1.length) (by omega) lm] at h
  have := List.append_inj h (by rw [seg_len (by omega)]; omega)
  exact ⟨lm, this.1.symm, this.2.symm⟩
theorem cut_nil : Cut (fun R => R = []) row k e ↔ e = k ∧ k ≤ row.length := by
  constructor
  · rintro ⟨h1, h2, h3⟩
    have l := congrArg List.length h3
    rw [seg_len h2, List.length_nil] at l
    exact ⟨by omega, by omega⟩
  · rintro ⟨rfl, h⟩
    exact ⟨Nat.le_refl _, h, seg_self⟩
theorem cut_one {x : Nat} : Cut (fun R => R = [x]) row k e ↔ e = k + 1 ∧ row[k]? = some x := by
  constructor
  · rintro ⟨h1, h2, h3⟩
    have l := congrArg List.length h3
    rw [seg_len h2, List.length_singleton] at l
    refine ⟨by omega, ?_⟩
    have g := congrArg (fun l : List Nat => l[0]?) h3
    unfold seg at g
    rw [List.getElem?_take, if_pos (by omega), List.getElem?_drop] at g
    exact g
  · rintro ⟨rfl, h⟩
    have kl := (List.getElem?_eq_some_iff.mp h).1
    refine ⟨by omega, by omega, ?_⟩
    unfold seg
    rw [List.drop_eq_getElem_cons kl, show k + 1 - k = 1 by omega]
    have : row[k] = x := by
      rw [List.getElem?_eq_getElem kl] at h
      injection h
    rw [this]
    rfl
theorem cut_cat : Cut (fun R => ∃ R1 R2, R = R1 ++ R2 ∧ L1 R1 ∧ L2 R2) row k e ↔ ∃ m, Cut L1 row k m ∧ Cut L2 row m e := by
  constructor
  · rintro ⟨h1, h2, R1, R2, h3, h4, h5⟩
    obtain ⟨l, e1, e2⟩ := seg_split h1 h2 h3
    rw [e1] at h4
    rw [e2] at h5
    exact ⟨k + R1.length, ⟨by omega, by omega, h4⟩, l, h2, h5⟩
  · rintro ⟨m, ⟨h1, _, h2⟩, h3, h4, h5⟩
    exact ⟨by omega, h4, _, _, seg_app h1 h3, h2, h5⟩
theorem cut_or : Cut (fun R => L1 R ∨ L2 R) row k e ↔ Cut L1 row k e ∨ Cut L2 row k e := by
  constructor
  · rintro ⟨h1, h2, h | h⟩
    · exact .inl ⟨h1, h2, h⟩
    · exact .inr ⟨h1, h2, h⟩
  · rintro (⟨h1, h2, h⟩ | ⟨h1, h2, h⟩)
    · exact ⟨h1, h2, .inl h⟩
    · exact ⟨h1, h2, .inr h⟩
/-- going on by a step as often as one likes -/
inductive Rc (S : Nat → Nat → Prop) : Nat → Nat → Prop
  | refl (k : Nat) : Rc S k k
  | cons {k m e : Nat} (h : S k m) (t : Rc S m e) : Rc S k e
theorem Rc.snoc {S : Nat → Nat → Prop} (h : Rc S k m) (s : S m e) : Rc S k e := by
  induction h with
  | refl => exact .cons s (.refl _)
  | cons h _ ih => exact .cons h (ih s)
theorem Rc.closed {S : Nat → Nat → Prop} {F : List Nat} (cl : ∀ x ∈ F, ∀ y, S x y → y ∈ F) (h : Rc S k e) : k ∈ F → e ∈ F := by
  induction h with
  | refl => exact id
  | cons h _ ih => exact fun z => ih (cl _ z _ h)
theorem cut_star (hk : k ≤ row.length) : Cut (Star L) row k e ↔ Rc (Cut L row) k e := by
  constructor
  · rintro ⟨h1, h2, h3⟩
    generalize hR : seg row k e = R at h3
    induction h3 generalizing k with
    | nil =>
      have l := congrArg List.length hR
      rw [seg_len h2, List.length_nil] at l
      obtain rfl : k = e := by omega
      exact .refl _
    | @cons R1 R2 hL _ ih =>
      obtain ⟨l, e1, e2⟩ := seg_split h1 h2 hR
      rw [e1] at hL
      exact .cons ⟨by omega, by omega, hL⟩ (ih (by omega) l e2.symm)
  · intro h
    induction h with
    | refl => exact ⟨Nat.le_refl _, hk, by rw [seg_self]; exact .nil⟩
    | cons h _ ih =>
      obtain ⟨h1, h2, h3⟩ := h
      obtain ⟨g1, g2, g3⟩ := ih h2
      refine ⟨by omega, g2, ?_⟩
      rw [seg_app h1 g1]
      exact .cons h3 g3
theorem cut_le (h : Cut L row k e) : e ≤ row.length := h.2.1
end
/-! ### the shapes that are drawn -/
inductive ShG (t : List Nat) : Nat → Sh → Prop
  | one {d : Nat} {s : List Nat} (n1 : 1 ≤ s.length) (n6 : s.length ≤ 6) (nd : s.Nodup) (sub : ∀ c ∈ s, c ∈ t) : ShG t (d + 1) (.one s)
  | row {d : Nat} {l : List Sh} (n : l.length ≤ 6) (h : ∀ y ∈ l, ShG t d y) : ShG t (d + 1) (.row l)
  | eit {d : Nat} {l : List Sh} (n : l.length ≤ 6) (n1 : 1 ≤ l.length) (h : ∀ y ∈ l, ShG t d y) : ShG t (d + 1) (.eit l)
  | many {d : Nat} {s : Sh} (h : ShG t d s) : ShG t (d + 1) (.many s)
  | tim {d : Nat} {s : Sh} {lo hi : Nat} (h : ShG t d s) (lh : lo ≤ hi) (h4 : hi ≤ 4) : ShG t (d + 1) (.tim s lo hi)
theorem ShG.shd {t : List Nat} {d : Nat} {s : Sh} (h : ShG t d s) : ShD d s := by
  induction h with
  | one => exact .one
  | row n _ ih => exact .row ih n
  | eit n _ _ ih => exact .eit ih n
  | many _ ih => exact .many ih
  | tim _ lh h4 ih => exact .tim ih lh h4
theorem ems0 : ∀ {l : List Sh}, (∀ y ∈ l, y.wt = 0 → y.em = true) → Sh.wts l = 0 → Sh.ems l = true
  | [], _, _ => rfl
  | s :: l, hy, h => by
    have h : s.wt + Sh.wts l = 0 := h
    show (s.em && Sh.ems l) = true
    rw [hy s List.mem_cons_self (by omega), ems0 (fun y hz => hy y (List.mem_cons_of_mem _ hz)) (by omega)]
    rfl
theorem ShG.em0 {t : List Nat} {d : Nat} {s : Sh} (h : ShG t d s) : s.wt = 0 → s.em = true := by
  induction h with
  | one => exact fun h => (by cases h)
  | @row _ l n _ ih => exact fun h => ems0 ih h
  | @eit _ l n n1 _ ih =>
    intro h
    show Sh.emo l = true
    have h : Sh.wts l = 0 := h
    cases l with
    | nil => simp at n1
    | cons s l =>
      have h : s.wt + Sh.wts l = 0 := h
      show (s.em || Sh.emo l) = true
      rw [ih s List.mem_cons_self (by omega)]
      rfl
  | many => exact fun _ => rfl
  | @tim _ s lo hi _ lh _ ih =>
    intro h
    have h : hi * s.wt = 0 := h
    show (decide (lo = 0) || s.em) = true
    rcases Nat.mul_eq_zero.mp h with h | h
    · obtain rfl : lo = 0 := by omega
      rfl
    · rw [ih h]
      simp
theorem crs0 {t : List Nat} {d : Nat} {s : Sh} (h : ShG t d s) (w : s.wt = 0) {a : Nat} {R : List Nat} : s.crs a R ↔ R = [] := by
  rw [crs_loc h.shd]
  cases R with
  | nil => exact ⟨fun _ => rfl, fun _ => h.em0 w⟩
  | cons p R =>
    constructor
    · intro z
      have z : (s.bg p a && _) = true := z
      rw [Bool.and_eq_true] at z
      have := Sh.bg_in z.1
      omega
    · exact fun z => by cases z
theorem sg_of {t : List Nat} {d : Nat} {x : D} (h : Sg t d x) : ∃ s : Sh, s.enc = x ∧ ShG t d s := by
  have all : ∀ {d : Nat} (l : List D), (∀ y ∈ l, ∃ s : Sh, s.enc = y ∧ ShG t d s) → ∃ l' : List Sh, Sh.encs l' = l ∧ l'.length = l.length ∧ ∀ y ∈ l', ShG t d y := by
    intro d l
    induction l with
    | nil => exact fun _ => ⟨[], rfl, rfl, by simp⟩
    | cons x l ih =>
      intro hy
      obtain ⟨s, e1, e2⟩ := hy x List.mem_cons_self
      obtain ⟨l', f1, f2, f3⟩ := ih fun y hz => hy y (List.mem_cons_of_mem _ hz)
      refine ⟨s :: l', ?_, by simp [f2], fun y hy => ?_⟩
      · show s.enc :: Sh.encs l' = _
        rw [e1, f1]
      · rcases List.mem_cons.mp hy with rfl | hy
        · exact e2
        · exact f3 y hy
  induction h with
  | @one _ s n1 n6 nd sub => exact ⟨.one s, rfl, .one n1 n6 nd sub⟩
  | @row _ l n _ ih =>
    obtain ⟨l', f1, f2, f3⟩ := all l ih
    refine ⟨.row l', ?_, .row (by omega) f3⟩
    show D.tup [.str kRow, .tup (Sh.encs l')] = _
    rw [f1]
  | @eit _ l n n1 _ ih =>
    obtain ⟨l', f1, f2, f3⟩ := all l ih
    refine ⟨.eit l', ?_, .eit (by omega) (by omega) f3⟩
    show D.tup [.str kEit, .tup (Sh.encs l')] = _
    rw [f1]
  | many _ ih =>
    obtain ⟨s, e1, e2⟩ := ih
    refine ⟨.many s, ?_, .many e2⟩
    show D.tup [.str kMany, s.enc] = _
    rw [e1]
  | @times _ _ lo hi _ l0 lh h4 ih =>
    obtain ⟨s, e1, e2⟩ := ih
    refine ⟨.tim s lo.toNat hi.toNat, ?_, .tim e2 (by omega) (by omega)⟩
    show D.tup [.str kTim, s.enc, .int (lo.toNat : Nat), .int (hi.toNat : Nat)] = _
    rw [e1, show ((lo.toNat : Nat) : Int) = lo by omega, show ((hi.toNat : Nat) : Int) = hi by omega]
end NR

set_option Elab.async false
set_option linter.all false
set_option maxRecDepth 100000
set_option maxHeartbeats 4000000
namespace NR
open PySem PySem.Spec PyProof.Rows L2
/-! ### where courses end -/
section
variable {row : List Nat} {L : List Nat → Prop} {h : IH} {E : D} {a n : Nat}
/-- what is told: a list in the heap with these numbers -/
def Tld (h : IH) (r : R D) (P : Nat → Prop) : Prop := ∃ (g : IH) (j : Nat) (es : List Nat), r = .ok (.ref j) (h ++ g) ∧ h.length ≤ j ∧ (h ++ g)[j]? = some (.lst (es.map nD)) ∧ es.Nodup ∧ ∀ e, e ∈ es ↔ P e
theorem frg_len {N : Nat} {w : List Nat} : ((List.range (N + 1)).filter fun q => decide (q ∈ w)).length ≤ N + 1 := Nat.le_trans (List.length_filter_le _ _) (by simp)
theorem frg_mem {N : Nat} {w : List Nat} (b : ∀ q ∈ w, q ≤ N) {e : Nat} : (e ∈ (List.range (N + 1)).filter fun q => decide (q ∈ w)) ↔ e ∈ w := by
  rw [List.mem_filter, List.mem_range, decide_eq_true_eq]
  constructor
  · exact fun h => h.2
  · exact fun h => ⟨by have := b e h; omega, h⟩
theorem frg_nd {N : Nat} {w : List Nat} : ((List.range (N + 1)).filter fun q => decide (q ∈ w)).Nodup := List.Pairwise.filter _ List.nodup_range
theorem usrt_frg {N : Nat} {w : List Nat} (b : ∀ q ∈ w, q ≤ N) : usrt (w.map fun (x : Nat) => (x : Int)) = ((List.range (N + 1)).filter fun q => decide (q ∈ w)).map fun (x : Nat) => (x : Int) := by
  symm
  refine usrt_eq ?_ fun k => ?_
  · rw [List.pairwise_map]
    refine List.Pairwise.filter _ ?_
    exact (List.pairwise_lt_range (n := N + 1)).imp fun h => by omega
  · constructor
    · intro h
      obtain ⟨q, hq, rfl⟩ := List.mem_map.mp h
      exact List.mem_map_of_mem ((frg_mem b).mp hq)
    · intro h
      obtain ⟨q, hq, rfl⟩ := List.mem_map.mp h
      exact List.mem_map_of_mem ((frg_mem b).mpr hq)
theorem nats_int (w : List Nat) : allM D.int? (w.map nD) = some (w.map fun (x : Nat) => (x : Int)) := by
  induction w with
  | nil => rfl
  | cons n ns ih =>
    rw [List.map_cons]
    unfold allM
    rw [ih]
    rfl
theorem ss_ref {H : IH} {me : ME} {env : EV} {f N : Nat} {w : List Nat} (e : me env H = .ok (.ref f) H) (l : H[f]? = some (.lst (w.map nD))) (b : ∀ q ∈ w, q ≤ N) (n1 : w.length ≤ 4000) (n2 : N < 60) : mSS me env H = newL H (((List.range (N + 1)).filter fun q => decide (q ∈ w)).map nD) := by
  unfold mSS
  rw [e, bind_ok, lstOf_ref l, Option.bind_some, nats_int]
  dsimp only
  rw [usrt_frg b, if_pos ⟨by rw [List.length_map]; exact n1, by
    rw [List.length_map]
    have := frg_len (N := N) (w := w)
    omega⟩, ← nats_ints]
  rfl
theorem in_nats {q : Nat} {w : List Nat} {f : Nat} {H : IH} (neg : Bool) (l : H[f]? = some (.lst (w.map nD))) : dIn neg (.int (q : Nat)) (.ref f) H = .ok (.bl (if neg then !decide (q ∈ w) else decide (q ∈ w))) H :=
  dIn_nats (by unfold seqOf; dsimp only; rw [l])
theorem told_len {w : List Nat} {P : Nat → Prop} {N : Nat} (nd : w.Nodup) (b : ∀ e ∈ w, e ≤ N) : w.length ≤ N + 1 := nd_len (N + 1) w nd fun x hx => by have := b x hx; omega
theorem behind_call (N11 : row.length ≤ 11) (C : ∀ (k : Nat) (h : IH), k ≤ row.length → Tld h (callC 4 (m__law_comes n) [E, .int (a : Nat), .fl (row.map nD), .int (k : Nat)] h) (Cut L row k)) {jh : Nat} {hs : List Nat} (hh : h[jh]? = some (.lst (hs.map nD))) (nd : hs.Nodup) (hb : ∀ m ∈ hs, m ≤ row.length) :
    Tld h (callC 4 (m__law_comes_behind (n + 1)) [E, .int (a : Nat), .fl (row.map nD), .ref jh] h) fun e => ∃ m ∈ hs, Cut L row m e := by
  have jl : jh < h.length := (List.getElem?_eq_some_iff.mp hh).1
  have old : ∀ g : IH, (h ++ g)[jh]? = some (.lst (hs.map nD)) := fun g => by rw [List.getElem?_append_left jl]; exact hh
  have hl := told_len (P := fun _ => True) nd hb
  have lp := for_srcI (it := iSeq (mVar 3)) (gg := gSet 5) (bd := b__law_comes_behind_1 (m__law_comes n) (m__law_comes_behind n) (m__law_comes_often n)) (env := [some E, some (.int (a : Nat)), some (.fl (row.map nD)), some (.ref jh), some (.ref h.length), none]) (H := h ++ [.lst []]) (src := .ls jh) (ds := hs.map nD)
    (fun i env H => ∃ x5 g ts, env = [some E, some (.int (a : Nat)), some (.fl (row.map nD)), some (.ref jh), some (.ref h.length), x5] ∧ H = h ++ g ∧ H[h.length]? = some (.lst (ts.map nD)) ∧ ts.length ≤ i * 12 ∧ ∀ e, e ∈ ts ↔ ∃ m ∈ hs.take i, Cut L row m e)
    (iSeq_ls (by simp) (old _)) (fun i env H ⟨x5, g, ts, _, e2, _⟩ => by
      rw [e2]
      exact ⟨(src_ls (old g)).1, (src_ls (old g)).2.1⟩) (src_ls (old _)).2.2 ⟨none, [.lst []], [], rfl, rfl, by simp, by simp, by simp⟩ (fun i d env H hd ⟨x5, g, ts, e1, e2, e3, e4, e5⟩ => by
      rw [List.getElem?_map] at hd
      cases hm : hs[i]? with
      | none => rw [hm] at hd; cases hd
      | some m =>
        rw [hm] at hd
        obtain rfl : nD m = d := by injection hd
        have mm := List.mem_of_getElem? hm
        obtain ⟨g2, j, es, c1, c2, c3, c4, c5⟩ := C m H (hb m mm)
        have el := told_len (P := fun _ => True) (N := row.length) c4 fun e he => ((c5 e).mp he).2.1
        have fl : h.length < H.length := (List.getElem?_eq_some_iff.mp e3).1
        have k1 : (H ++ g2)[h.length]? = some (.lst (ts.map nD)) := by rw [List.getElem?_append_left fl]; exact e3
        have ad := dIAddL_new (h' := []) k1 c3 (by rw [List.length_map, List.length_map]; have := (List.getElem?_eq_some_iff.mp hm).1; omega)
        refine ⟨_, [some E, some (.int (a : Nat)), some (.fl (row.map nD)), some (.ref jh), some (.ref h.length), some (nD m)], (H ++ g2).set h.length (.lst ((ts ++ es).map nD)), rfl, ?_, some (nD m), (g ++ g2).set 0 (.lst ((ts ++ es).map nD)), ts ++ es, rfl, ?_, ?_, ?_, ?_⟩
        · rw [e1]
          have c1 : callC 4 (m__law_comes n) [E, .int (a : Nat), .fl (row.map nD), nD m] H = .ok (.ref j) (H ++ g2) := c1
          unfold b__law_comes_behind_1
          rw [← List.map_append] at ad
          generalize (H ++ g2).set h.length (.lst ((ts ++ es).map nD)) = H3 at *
          generalize H ++ g2 = H2 at *
          generalize row.map nD = RW at *
          simp [c1, ad]
        · rw [e2, List.append_assoc, List.set_append_right _ _ (Nat.le_refl _), Nat.sub_self]
        · rw [List.getElem?_set_self (by rw [List.length_append]; omega)]
        · rw [List.length_append, Nat.add_mul]
          omega
        · intro e
          rw [List.mem_append, e5, c5, List.take_add_one, hm]
          constructor
          · rintro (⟨x, hx, q⟩ | q)
            · exact ⟨x, List.mem_append_left _ hx, q⟩
            · exact ⟨m, List.mem_append_right _ (by simp), q⟩
          · rintro ⟨x, hx, q⟩
            rcases List.mem_append.mp hx with hx | hx
            · exact .inl ⟨x, hx, q⟩
            · have : x = m := by simpa using hx
              subst this
              exact .inr q)
  obtain ⟨e2, h2, lp, x5, g, ts, rfl, rfl, l3, l4, l5⟩ := lp
  rw [List.length_map] at l4 l5
  rw [List.take_length] at l5
  have tb : ∀ q ∈ ts, q ≤ row.length := fun q hq => by
    obtain ⟨m, _, c⟩ := (l5 q).mp hq
    exact c.2.1
  refine ⟨g ++ [.lst (((List.range (row.length + 1)).filter fun q => decide (q ∈ ts)).map nD)], (h ++ g).length, (List.range (row.length + 1)).filter fun q => decide (q ∈ ts), callC_new rfl ?_ (by rw [List.length_append]; omega), by rw [List.length_append]; omega, ?_, frg_nd, fun e => by rw [frg_mem tb, l5]⟩
  · rw [show m__law_comes_behind (n + 1) = B__law_comes_behind (m__law_comes n) (m__law_comes_behind n) (m__law_comes_often n) from rfl]
    unfold B__law_comes_behind
    rw [ap_fnM]
    refine stN (env2 := [some E, some (.int (a : Nat)), some (.fl (row.map nD)), some (.ref jh), some (.ref h.length), none]) (h2 := h ++ [.lst []]) (by
      generalize row.map nD = RW at *
      simp [newL_bindS]) ?_
    refine stN lp ?_
    rw [ap_msRet, ss_ref (N := row.length) (f := h.length) (w := ts) (by simp) l3 tb (by omega) (by omega), newL_bindS, fin_rt, List.append_assoc]
  · rw [← List.append_assoc]
    exact get_last
end
end NR

set_option Elab.async false
set_option linter.all false
set_option maxRecDepth 100000
set_option maxHeartbeats 4000000
namespace NR
open PySem PySem.Spec PyProof.Rows L2
section
variable {row : List Nat} {L : List Nat → Prop} {h : IH} {E : D} {a n : Nat}
theorem fz_newM {g : IH} {j : Nat} {xs : List D} (hj : h.length ≤ j) (e : (h ++ g)[j]? = some (.lst xs)) (lo : D.loL h.length xs = true) : fzR h (.ok (.ref j) (h ++ g)) = .ok (.fl xs) h := by
  rw [fzR_at e hj lo okB_self]
  simp
theorem lo_natsM {k : Nat} {l : List Nat} : D.loL k (l.map nD) = true := loL_of fun x hx => by
  obtain ⟨y, _, rfl⟩ := List.mem_map.mp hx
  rfl
/-- those of a list that are not there yet, put behind -/
def putN (fs : List Nat) : List Nat → List Nat
  | [] => fs
  | e :: es => putN (if e ∈ fs then fs else fs ++ [e]) es
theorem putN_app : ∀ {es fs : List Nat}, ∃ t, putN fs es = fs ++ t
  | [], fs => ⟨[], by simp [putN]⟩
  | e :: es, fs => by
    obtain ⟨t, ht⟩ := putN_app (es := es) (fs := if e ∈ fs then fs else fs ++ [e])
    unfold putN
    rw [ht]
    split
    · exact ⟨t, rfl⟩
    · exact ⟨e :: t, by simp⟩
theorem putN_mem {x : Nat} : ∀ {es fs : List Nat}, x ∈ putN fs es ↔ x ∈ fs ∨ x ∈ es
  | [], fs => by simp [putN]
  | e :: es, fs => by
    unfold putN
    rw [putN_mem (es := es)]
    split
    · rename_i h
      constructor
      · rintro (z | z)
        · exact .inl z
        · exact .inr (List.mem_cons_of_mem _ z)
      · rintro (z | z)
        · exact .inl z
        · rcases List.mem_cons.mp z with rfl | z
          · exact .inl h
          · exact .inr z
    · rw [List.mem_append, List.mem_singleton, List.mem_cons, or_assoc]
theorem putN_nd : ∀ {es fs : List Nat}, fs.Nodup → (putN fs es).Nodup
  | [], fs, h => h
  | e :: es, fs, h => by
    unfold putN
    refine putN_nd ?_
    split
    · exact h
    · rename_i ne
      rw [List.nodup_append]
      exact ⟨h, by simp, fun a ha b hb => by rw [List.mem_singleton] at hb; subst hb; exact fun z => ne (z ▸ ha)⟩
theorem often_inner {X0 X1 X2 X3 X5 : Option D} {r1 r2 r3 : MF} {N : Nat} (N50 : N ≤ 50) : ∀ (es fs : List Nat) (g : IH) (x6 : Option D), (h ++ g)[h.length]? = some (.lst (fs.map nD)) → fs.Nodup → (∀ x ∈ fs, x ≤ N) → (∀ x ∈ es, x ≤ N) →
    ∃ y6 g', forL (gSet 6) (b__law_comes_often_1 r1 r2 r3) (es.map nD) [X0, X1, X2, X3, some (.ref h.length), X5, x6] (h ++ g) = .nx [X0, X1, X2, X3, some (.ref h.length), X5, y6] (h ++ g') ∧ (h ++ g')[h.length]? = some (.lst ((putN fs es).map nD))
  | [], fs, g, x6, hf, _, _, _ => ⟨x6, g, rfl, hf⟩
  | e :: es, fs, g, x6, hf, nd, b1, b2 => by
    have gl : 0 < g.length := by
      have := (List.getElem?_eq_some_iff.mp hf).1
      rw [List.length_append] at this
      omega
    have inn := in_nats (q := e) true hf
    rw [List.map_cons, forL_cons (e1 := [X0, X1, X2, X3, some (.ref h.length), X5, some (nD e)]) rfl]
    by_cases m : e ∈ fs
    · obtain ⟨y6, g', ih, k⟩ := often_inner (X0 := X0) (X1 := X1) (X2 := X2) (X3 := X3) (X5 := X5) (r1 := r1) (r2 := r2) (r3 := r3) N50 es fs g (some (nD e)) hf nd b1 fun x hx => b2 x (List.mem_cons_of_mem _ hx)
      refine ⟨y6, g', ?_, by unfold putN; rw [if_pos m]; exact k⟩
      have ev : b__law_comes_often_1 r1 r2 r3 [X0, X1, X2, X3, some (.ref h.length), X5, some (nD e)] (h ++ g) = .nx [X0, X1, X2, X3, some (.ref h.length), X5, some (nD e)] (h ++ g) := by
        unfold b__law_comes_often_1
        generalize h ++ g = H at *
        have inn : dIn true (nD e) (.ref h.length) H = .ok (.bl (!decide (e ∈ fs))) H := inn
        simp [inn, m]
      rw [ev, on_nx]
      exact ih
    · have fl := told_len (P := fun _ => True) nd b1
      have ap := append_at (y := nD e) hf (by rw [List.length_map]; omega)
      have ty := tyD_ref hf
      have st : (h ++ g).set h.length (.lst (fs.map nD ++ [nD e])) = h ++ g.set 0 (.lst ((fs ++ [e]).map nD)) := by
        rw [set_app0, List.map_append]
        rfl
      rw [st] at ap
      obtain ⟨y6, g', ih, k⟩ := often_inner (X0 := X0) (X1 := X1) (X2 := X2) (X3 := X3) (X5 := X5) (r1 := r1) (r2 := r2) (r3 := r3) N50 es (fs ++ [e]) (g.set 0 (.lst ((fs ++ [e]).map nD))) (some (nD e)) (by
        rw [List.getElem?_append_right (Nat.le_refl _), Nat.sub_self, List.getElem?_set_self gl]) (by
        rw [List.nodup_append]
        exact ⟨nd, by simp, fun a ha b hb => by rw [List.mem_singleton] at hb; subst hb; exact fun z => m (z ▸ ha)⟩) (fun x hx => by
        rcases List.mem_append.mp hx with hx | hx
        · exact b1 x hx
        · rw [List.mem_singleton] at hx
          subst hx
          exact b2 x List.mem_cons_self) fun x hx => b2 x (List.mem_cons_of_mem _ hx)
      refine ⟨y6, g', ?_, by unfold putN; rw [if_neg m]; exact k⟩
      have ev : b__law_comes_often_1 r1 r2 r3 [X0, X1, X2, X3, some (.ref h.length), X5, some (nD e)] (h ++ g) = .nx [X0, X1, X2, X3, some (.ref h.length), X5, some (nD e)] (h ++ g.set 0 (.lst ((fs ++ [e]).map nD))) := by
        unfold b__law_comes_often_1
        have inn : dIn true (nD e) (.ref h.length) (h ++ g) = .ok (.bl (!decide (e ∈ fs))) (h ++ g) := inn
        clear st
        generalize h ++ g.set 0 (.lst ((fs ++ [e]).map nD)) = H2 at *
        generalize h ++ g = H at *
        simp [inn, m, ap, ty]
      rw [ev, on_nx]
      exact ih
theorem often_call (N11 : row.length ≤ 11) (C : ∀ (k : Nat) (h : IH), k ≤ row.length → Tld h (callC 4 (m__law_comes n) [E, .int (a : Nat), .fl (row.map nD), .int (k : Nat)] h) (Cut L row k)) {k : Nat} (hk : k ≤ row.length) :
    Tld h (callC 4 (m__law_comes_often (n + 1)) [E, .int (a : Nat), .fl (row.map nD), .int (k : Nat)] h) (Cut (Star L) row k) := by
  have w := while_inv (c := t__law_comes_often_2 (m__law_comes n) (m__law_comes_behind n) (m__law_comes_often n)) (s := b__law_comes_often_3 (m__law_comes n) (m__law_comes_behind n) (m__law_comes_often n))
    (fun m env H => ∃ (x6 : Option D) (g : IH) (fs : List Nat) (i : Nat), env = [some E, some (.int (a : Nat)), some (.fl (row.map nD)), some (.int (k : Nat)), some (.ref h.length), some (nD i), x6] ∧ H = h ++ g ∧ H[h.length]? = some (.lst (fs.map nD)) ∧ fs.Nodup ∧ (∀ x ∈ fs, Rc (Cut L row) k x ∧ x ≤ row.length) ∧ k ∈ fs ∧ (∀ j x, j < i → fs[j]? = some x → ∀ y, Cut L row x y → y ∈ fs) ∧ i ≤ fs.length ∧ m + i = row.length + 1)
    (fun r => ∃ (x5 x6 : Option D) (g : IH) (fs : List Nat), r = .nx [some E, some (.int (a : Nat)), some (.fl (row.map nD)), some (.int (k : Nat)), some (.ref h.length), x5, x6] (h ++ g) ∧ (h ++ g)[h.length]? = some (.lst (fs.map nD)) ∧ fs.Nodup ∧ (∀ x ∈ fs, x ≤ row.length) ∧ ∀ e, e ∈ fs ↔ Rc (Cut L row) k e)
    (row.length + 1) [some E, some (.int (a : Nat)), some (.fl (row.map nD)), some (.int (k : Nat)), some (.ref h.length), some (nD 0), none] (h ++ [.lst [nD k]])
    ⟨none, [.lst [nD k]], [k], 0, rfl, rfl, by simp, by simp, by simpa using ⟨.refl _, hk⟩, by simp, by simp, by simp, rfl⟩ (by
      rintro m env H ⟨x6, g, fs, i, rfl, rfl, hf, nd, rc, kf, cl, il, mi⟩
      have fl := told_len (P := fun _ => True) nd fun x hx => (rc x hx).2
      have bl : bLen [.ref h.length] (h ++ g) = .ok (.int (fs.length : Nat)) (h ++ g) := by
        have := bLen_ref hf
        rw [List.length_map] at this
        exact this
      refine ⟨decide (i < fs.length), ?_, ?_⟩
      · unfold t__law_comes_often_2
        generalize h ++ g = H at *
        simp [bl, nD]
      by_cases lt : i < fs.length
      · rw [decide_eq_true lt, if_pos rfl]
        have fx : fs[i]? = some fs[i] := List.getElem?_eq_getElem lt
        generalize fs[i] = x at fx
        have xm := List.mem_of_getElem? fx
        obtain ⟨g2, j, es, c1, c2, c3, c4, c5⟩ := C x (h ++ g) (rc x xm).2
        have ix : dIx (.ref h.length) (nD i) (h ++ g) = .ok (nD x) (h ++ g) := dIx_ref hf (by omega) (by
          rw [Int.toNat_natCast, List.getElem?_map, fx]
          rfl)
        have fz := fz_newM c2 c3 lo_natsM
        obtain ⟨y6, g', lp, k'⟩ := often_inner (h := h) (X0 := some E) (X1 := some (.int (a : Nat))) (X2 := some (.fl (row.map nD))) (X3 := some (.int (k : Nat))) (X5 := some (nD i)) (r1 := m__law_comes n) (r2 := m__law_comes_behind n) (r3 := m__law_comes_often n) (N := row.length) (by omega) es fs g x6 hf nd (fun x hx => (rc x hx).2) fun e he => ((c5 e).mp he).2.1
        have ev : b__law_comes_often_3 (m__law_comes n) (m__law_comes_behind n) (m__law_comes_often n) [some E, some (.int (a : Nat)), some (.fl (row.map nD)), some (.int (k : Nat)), some (.ref h.length), some (nD i), x6] (h ++ g) = .nx [some E, some (.int (a : Nat)), some (.fl (row.map nD)), some (.int (k : Nat)), some (.ref h.length), some (nD (i + 1)), y6] (h ++ g') := by
          unfold b__law_comes_often_3
          have it : iSeq (mFz (mCall 4 (m__law_comes n) (mCons (mVar 0) (mCons (mVar 1) (mCons (mVar 2) (mCons (mOp dIx (mVar 4) (mVar 5)) (mNil))))))) [some E, some (.int (a : Nat)), some (.fl (row.map nD)), some (.int (k : Nat)), some (.ref h.length), some (nD i), x6] (h ++ g) = .ok (.st (es.map nD)) (h ++ g) := by
            have c1 : callC 4 (m__law_comes n) [E, .int (a : Nat), .fl (row.map nD), nD x] (h ++ g) = .ok (.ref j) (h ++ g ++ g2) := c1
            generalize es.map nD = ES at *
            generalize h ++ g ++ g2 = H2 at *
            generalize h ++ g = H at *
            generalize row.map nD = RW at *
            simp [ix, c1, fz]
          refine stS ((for_st it).trans lp) ?_
          have ad : dIAdd (nD i) (.int 1) (h ++ g') = .ok (nD (i + 1)) (h ++ g') := rfl
          generalize h ++ g' = H at *
          generalize row.map nD = RW at *
          simp [ad]
        rw [ev]
        obtain ⟨t, ht⟩ := putN_app (es := es) (fs := fs)
        refine ⟨m - 1, by omega, y6, g', putN fs es, i + 1, rfl, rfl, k', putN_nd nd, ?_, putN_mem.mpr (.inl kf), ?_, ?_, by omega⟩
        · intro y hy
          rcases putN_mem.mp hy with hy | hy
          · exact rc y hy
          · have := (c5 y).mp hy
            exact ⟨(rc x xm).1.snoc this, this.2.1⟩
        · intro q z hq hz y hy
          have qf : fs[q]? = some z := by
            rw [ht, List.getElem?_append_left (by omega)] at hz
            exact hz
          rcases Nat.lt_or_ge q i with q1 | q1
          · exact putN_mem.mpr (.inl (cl q z q1 qf y hy))
          · obtain rfl : q = i := by omega
            rw [fx] at qf
            injection qf with qf
            subst qf
            exact putN_mem.mpr (.inr ((c5 y).mpr hy))
        · rw [ht, List.length_append]
          omega
      · rw [decide_eq_false lt, if_neg (by simp)]
        refine ⟨_, _, g, fs, rfl, hf, nd, fun x hx => (rc x hx).2, fun e => ⟨fun he => (rc e he).1, fun he => he.closed (fun x hx y hy => ?_) kf⟩⟩
        obtain ⟨q, hq⟩ := List.mem_iff_getElem?.mp hx
        exact cl q x (by have := (List.getElem?_eq_some_iff.mp hq).1; omega) hq y hy)
  obtain ⟨x5, x6, g, fs, lp, hf, nd, fb, fm⟩ := w
  have sr : bSorted [.ref h.length] (h ++ g) = newL (h ++ g) (((List.range (row.length + 1)).filter fun q => decide (q ∈ fs)).map nD) := by
    rw [sorted_row hf, isrt_filter (P := fun q => decide (q ∈ fs)) (N := row.length) nd (fun q => by simp) (fun q hq => fb q (by simpa using hq)), ← nats_ints]
  refine ⟨g ++ [.lst (((List.range (row.length + 1)).filter fun q => decide (q ∈ fs)).map nD)], (h ++ g).length, (List.range (row.length + 1)).filter fun q => decide (q ∈ fs), callC_new rfl ?_ (by rw [List.length_append]; omega), by rw [List.length_append]; omega, ?_, frg_nd, fun e => by rw [frg_mem fb, fm, cut_star hk]⟩
  · rw [show m__law_comes_often (n + 1) = B__law_comes_often (m__law_comes n) (m__law_comes_behind n) (m__law_comes_often n) from rfl]
    unfold B__law_comes_often
    rw [ap_fnM]
    refine stN (env2 := [some E, some (.int (a : Nat)), some (.fl (row.map nD)), some (.int (k : Nat)), some (.ref h.length), none, none]) (h2 := h ++ [.lst [nD k]]) (by
      generalize row.map nD = RW at *
      simp [newL_bindS, nD]) ?_
    refine stN (env2 := [some E, some (.int (a : Nat)), some (.fl (row.map nD)), some (.int (k : Nat)), some (.ref h.length), some (nD 0), none]) (h2 := h ++ [.lst [nD k]]) (by
      generalize row.map nD = RW at *
      simp [nD]) ?_
    refine stN lp ?_
    rw [ap_msRet]
    show ((bSorted [.ref h.length] (h ++ g)).bindS _ _).fin = _
    rw [sr, newL_bindS, fin_rt, List.append_assoc]
  · rw [← List.append_assoc]
    exact get_last
end
end NR

set_option Elab.async false
set_option linter.all false
set_option maxRecDepth 100000
set_option maxHeartbeats 4000000
namespace NR
open PySem PySem.Spec PyProof.Rows L2
def Sh.tf : Sh → Nat → Bool
  | .tim _ lo _, i => decide (lo ≤ i)
  | _, _ => false
def Sh.lowI : Sh → Nat
  | .tim _ lo _ => lo
  | _ => 0
def crsG (f : Nat → Bool) : List Sh → Nat → Nat → List Nat → Prop
  | [], _, _, R => R = []
  | s :: l, i, a, R => (f i = true ∧ R = []) ∨ ∃ R1 R2, R = R1 ++ R2 ∧ s.crs a R1 ∧ crsG f l (i + 1) (a + s.wt) R2
theorem crsG_row : ∀ {l : List Sh} {i a : Nat}, crsG (fun _ => false) l i a = Sh.crsS l a
  | [], _, _ => rfl
  | s :: l, i, a => by
    funext R
    show ((false = true ∧ R = []) ∨ ∃ R1 R2, R = R1 ++ R2 ∧ s.crs a R1 ∧ crsG _ l (i + 1) (a + s.wt) R2) = _
    rw [crsG_row]
    simp only [Bool.false_eq_true, false_and, false_or]
    rfl
theorem crsG_tim {s : Sh} {lo : Nat} : ∀ {k i a : Nat}, crsG (fun i => decide (lo ≤ i)) (List.replicate k s) i a = TimC (fun b R => s.crs b R) s.wt lo k i a
  | 0, _, _ => rfl
  | k + 1, i, a => by
    funext R
    rw [List.replicate_succ]
    show ((decide (lo ≤ i) = true ∧ R = []) ∨ ∃ R1 R2, R = R1 ++ R2 ∧ s.crs a R1 ∧ crsG _ (List.replicate k s) (i + 1) (a + s.wt) R2) = ((lo ≤ i ∧ R = []) ∨ ∃ R1 R2, R = R1 ++ R2 ∧ s.crs a R1 ∧ TimC (fun b R => s.crs b R) s.wt lo k (i + 1) (a + s.wt) R2)
    rw [crsG_tim, decide_eq_true_eq]
theorem tf_ev {s0 : Sh} {i : Nat} {h : IH} {env : EV} (e0 : env[0]? = some (some s0.enc)) (e6 : env[6]? = some (some (nD s0.lowI))) (e7 : env[7]? = some (some (.int (i : Nat)))) : (mAnd (mTb (mOp (dEq false) (mOp dIx (mVar 0) (mC (.int 0))) (mC (.str kTim)))) (mTb (mOp dGe (mVar 7) (mVar 6)))) env h = .ok (s0.tf i) h := by
  have h0 := enc0 s0 h
  cases s0 with
  | tim x lo hi =>
    generalize Sh.enc (.tim x lo hi) = E at *
    have e6 : env[6]? = some (some (.int (lo : Nat))) := e6
    by_cases l : lo ≤ i
    · have l' : ((lo : Nat) : Int) ≤ (i : Nat) := by omega
      simp [e0, e6, e7, h0, Sh.key, Sh.tf, l, l']
    · have l' : ¬ ((lo : Nat) : Int) ≤ (i : Nat) := by omega
      simp [e0, e6, e7, h0, Sh.key, Sh.tf, l, l']
  | one x =>
    generalize Sh.enc (.one x) = E at *
    have n1 : ¬ kOne = kTim := by decide
    simp [e0, h0, Sh.key, Sh.tf, n1]
  | row x =>
    generalize Sh.enc (.row x) = E at *
    have n1 : ¬ kRow = kTim := by decide
    simp [e0, h0, Sh.key, Sh.tf, n1]
  | eit x =>
    generalize Sh.enc (.eit x) = E at *
    have n1 : ¬ kEit = kTim := by decide
    simp [e0, h0, Sh.key, Sh.tf, n1]
  | many x =>
    generalize Sh.enc (.many x) = E at *
    have n1 : ¬ kMany = kTim := by decide
    simp [e0, h0, Sh.key, Sh.tf, n1]
theorem eit_ev {s0 : Sh} {h : IH} {env : EV} (e0 : env[0]? = some (some s0.enc)) : (mTb (mOp (dEq false) (mOp dIx (mVar 0) (mC (.int 0))) (mC (.str kEit)))) env h = .ok s0.isE h := by
  have h0 := enc0 s0 h
  rw [← key_eit]
  generalize s0.enc = E at *
  generalize s0.key = K at *
  simp [e0, h0]
section
variable {row : List Nat} {h : IH} {d n : Nat} {t : List Nat}
def CmC (row : List Nat) (n : Nat) (y : Sh) : Prop := ∀ (a k : Nat) (h : IH), k ≤ row.length → Tld h (callC 4 (m__law_comes n) [y.enc, .int (a : Nat), .fl (row.map nD), .int (k : Nat)] h) (Cut (y.crs a) row k)
def CmB (row : List Nat) (n : Nat) (y : Sh) : Prop := ∀ (a jh : Nat) (hs : List Nat) (h : IH), h[jh]? = some (.lst (hs.map nD)) → hs.Nodup → (∀ m ∈ hs, m ≤ row.length) → Tld h (callC 4 (m__law_comes_behind n) [y.enc, .int (a : Nat), .fl (row.map nD), .ref jh] h) fun e => ∃ m ∈ hs, Cut (y.crs a) row m e
/-- the set that is to come out -/
def FinC (row : List Nat) (s0 : Sh) (k : Nat) (l : List Sh) (i a : Nat) (fs hs : List Nat) (e : Nat) : Prop := e ∈ fs ∨ if s0.isE = true then Cut (Sh.crsO l a) row k e else ∃ m ∈ hs, Cut (crsG s0.tf l i a) row m e
theorem fin_step {s0 : Sh} {k : Nat} {s : Sh} {l : List Sh} {i a : Nat} {fs hs ts : List Nat} (hb : ∀ m ∈ hs, m ≤ row.length) (nE : s0.isE = false) (ht : ∀ e, e ∈ ts ↔ ∃ m ∈ hs, Cut (s.crs a) row m e) {e : Nat} :
    FinC row s0 k l (i + 1) (a + s.wt) (if s0.tf i = true then fs ++ hs else fs) ts e ↔ FinC row s0 k (s :: l) i a fs hs e := by
  unfold FinC
  rw [nE]
  simp only [Bool.false_eq_true, if_false]
  have un : ∀ m, m ≤ row.length → (Cut (crsG s0.tf (s :: l) i a) row m e ↔ (s0.tf i = true ∧ e = m) ∨ ∃ q, Cut (s.crs a) row m q ∧ Cut (crsG s0.tf l (i + 1) (a + s.wt)) row q e) := fun m hm => by
    rw [← cut_cat]
    show Cut (fun R => (s0.tf i = true ∧ R = []) ∨ ∃ R1 R2, R = R1 ++ R2 ∧ s.crs a R1 ∧ crsG s0.tf l (i + 1) (a + s.wt) R2) row m e ↔ _
    rw [cut_or]
    refine or_congr ?_ Iff.rfl
    constructor
    · rintro ⟨h1, h2, h3, h4⟩
      exact ⟨h3, ((cut_nil (row := row) (k := m)).mp ⟨h1, h2, h4⟩).1⟩
    · rintro ⟨h3, rfl⟩
      exact ⟨Nat.le_refl _, hm, h3, seg_self⟩
  constructor
  · rintro (h | ⟨q, hq, c⟩)
    · split at h
      · rename_i tf
        rcases List.mem_append.mp h with h | h
        · exact .inl h
        · exact .inr ⟨e, h, (un e (hb e h)).mpr (.inl ⟨tf, rfl⟩)⟩
      · exact .inl h
    · obtain ⟨m, hm, c2⟩ := (ht q).mp hq
      exact .inr ⟨m, hm, (un m (hb m hm)).mpr (.inr ⟨q, c2, c⟩)⟩
  · rintro (h | ⟨m, hm, c⟩)
    · refine .inl ?_
      split
      · exact List.mem_append_left _ h
      · exact h
    · rcases (un m (hb m hm)).mp c with ⟨tf, rfl⟩ | ⟨q, c1, c2⟩
      · refine .inl ?_
        rw [if_pos tf]
        exact List.mem_append_right _ hm
      · exact .inr ⟨q, (ht q).mpr ⟨m, hm, c1⟩, c2⟩
theorem comes_loop {s0 : Sh} {k : Nat} (N11 : row.length ≤ 11) (hk : k ≤ row.length) (d6 : d ≤ 6) : ∀ (l : List Sh), (∀ y ∈ l, ShD d y) → (∀ y ∈ l, CmC row n y) → (∀ y ∈ l, CmB row n y) → ∀ (i a jh : Nat) (fs hs : List Nat) (g : IH) (x7 x8 : Option D), i + l.length ≤ 10 → (h ++ g)[h.length]? = some (.lst (fs.map nD)) → (h ++ g)[jh]? = some (.lst (hs.map nD)) → h.length < jh → hs.Nodup → (∀ m ∈ hs, m ≤ row.length) → (∀ m ∈ fs, m ≤ row.length) → fs.length ≤ i * 12 →
    ∃ (a' jh' : Nat) (fs' hs' : List Nat) (g' : IH) (y7 y8 : Option D), forL (gSets [7, 8]) (b__law_comes_1 (m__law_comes n) (m__law_comes_behind n) (m__law_comes_often n)) ((Sh.encs l).mapIdx fun j x => .tup [.int ((i + j : Nat) : Int), x]) [some s0.enc, some (.int (a : Nat)), some (.fl (row.map nD)), some (.int (k : Nat)), some (.ref h.length), some (.ref jh), some (nD s0.lowI), x7, x8] (h ++ g) =
      .nx [some s0.enc, some (.int (a' : Nat)), some (.fl (row.map nD)), some (.int (k : Nat)), some (.ref h.length), some (.ref jh'), some (nD s0.lowI), y7, y8] (h ++ g') ∧ (h ++ g')[h.length]? = some (.lst (fs'.map nD)) ∧ (h ++ g')[jh']? = some (.lst (hs'.map nD)) ∧ (∀ m ∈ hs', m ≤ row.length) ∧ (∀ m ∈ fs', m ≤ row.length) ∧ fs'.length ≤ 120 ∧ hs'.length ≤ 12 ∧ ∀ e, (e ∈ fs' ∨ (s0.isE = false ∧ e ∈ hs')) ↔ FinC row s0 k l i a fs hs e
  | [], hd, hC, hB, i, a, jh, fs, hs, g, x7, x8, il, hf, hh, jl, nd, hb, fb, fl => by
    refine ⟨a, jh, fs, hs, g, x7, x8, rfl, hf, hh, hb, fb, by simp at il; omega, by have := told_len (P := fun _ => True) nd hb; omega, fun e => ?_⟩
    unfold FinC
    cases hE : s0.isE with
    | true =>
      rw [if_pos rfl]
      refine or_congr Iff.rfl ⟨fun z => (by cases z.1), fun z => z.2.2.elim⟩
    | false =>
      rw [if_neg (by simp)]
      refine or_congr Iff.rfl ⟨fun z => ⟨e, z.2, (cut_nil (row := row)).mpr ⟨rfl, hb e z.2⟩⟩, fun ⟨m, hm, c⟩ => ⟨rfl, ?_⟩⟩
      obtain ⟨rfl, _⟩ := (cut_nil (row := row)).mp c
      exact hm
  | s :: l, hd, hC, hB, i, a, jh, fs, hs, g, x7, x8, il, hf, hh, jl, nd, hb, fb, fl => by
    have e3 := fun h => lwt (hd s List.mem_cons_self) d6 h
    rw [List.length_cons] at il
    have sh : ((Sh.encs l).mapIdx fun j x => D.tup [.int ((i + (j + 1) : Nat) : Int), x]) = (Sh.encs l).mapIdx fun j x => D.tup [.int ((i + 1 + j : Nat) : Int), x] := by
      congr 1
      funext j x
      rw [show i + (j + 1) = i + 1 + j by omega]
    rw [show Sh.encs (s :: l) = s.enc :: Sh.encs l from rfl, List.mapIdx_cons, sh, forL_cons (e1 := [some s0.enc, some (.int (a : Nat)), some (.fl (row.map nD)), some (.int (k : Nat)), some (.ref h.length), some (.ref jh), some (nD s0.lowI), some (.int ((i + 0 : Nat) : Int)), some s.enc]) rfl]
    rw [show i + 0 = i from rfl]
    have go := comes_loop (s0 := s0) (k := k) N11 hk d6 l (fun y hy => hd y (List.mem_cons_of_mem _ hy)) (fun y hy => hC y (List.mem_cons_of_mem _ hy)) (fun y hy => hB y (List.mem_cons_of_mem _ hy)) (i + 1) (a + s.wt)
    have aug : ∀ (H : IH) (jh : Nat), msAug 1 dIAdd (mCall 1 ((m__law_weight 24)) (mCons (mVar 8) (mNil))) [some s0.enc, some (.int (a : Nat)), some (.fl (row.map nD)), some (.int (k : Nat)), some (.ref h.length), some (.ref jh), some (nD s0.lowI), some (.int (i : Nat)), some s.enc] H = .nx [some s0.enc, some (.int ((a + s.wt : Nat) : Int)), some (.fl (row.map nD)), some (.int (k : Nat)), some (.ref h.length), some (.ref jh), some (nD s0.lowI), some (.int (i : Nat)), some s.enc] H := fun H jh => by
      have e3 := e3 H
      have ad2 : dIAdd (.int (a : Nat)) (.int (s.wt : Nat)) H = .ok (.int ((a + s.wt : Nat) : Int)) H := rfl
      generalize ((a + s.wt : Nat) : Int) = A2 at *
      generalize s.enc = E at *
      generalize row.map nD = RW at *
      simp [e3, ad2]
    have ad_of : ∀ (g : IH) (fs es : List Nat) (j : Nat), (h ++ g)[h.length]? = some (.lst (fs.map nD)) → (h ++ g)[j]? = some (.lst (es.map nD)) → fs.length + es.length ≤ 1000 → dIAddL (.ref h.length) (.ref j) (h ++ g) = .ok (.ref h.length) (h ++ g.set 0 (.lst ((fs ++ es).map nD))) ∧ (h ++ g.set 0 (.lst ((fs ++ es).map nD)))[h.length]? = some (.lst ((fs ++ es).map nD)) ∧ ∀ q c, h.length < q → (h ++ g)[q]? = some c → (h ++ g.set 0 (.lst ((fs ++ es).map nD)))[q]? = some c := fun g fs es j h1 h2 hl => by
      have gl : 0 < g.length := by
        have := (List.getElem?_eq_some_iff.mp h1).1
        rw [List.length_append] at this
        omega
      have ad := dIAddL_new (h' := []) h1 h2 (by rw [List.length_map, List.length_map]; omega)
      rw [← List.map_append, set_app0] at ad
      refine ⟨ad, ?_, fun q c hq hc => ?_⟩
      · rw [List.getElem?_append_right (Nat.le_refl _), Nat.sub_self, List.getElem?_set_self gl]
      · rw [List.getElem?_append_right (by omega)] at hc ⊢
        rw [List.getElem?_set_ne (by omega)]
        exact hc
    cases hE : s0.isE with
    | true =>
      obtain ⟨g2, j, es, c1, c2, c3, c4, c5⟩ := hC s List.mem_cons_self a k (h ++ g) hk
      have el := told_len (P := fun _ => True) (N := row.length) c4 fun e he => ((c5 e).mp he).2.1
      rw [List.append_assoc] at c3 c1
      have hf2 : (h ++ (g ++ g2))[h.length]? = some (.lst (fs.map nD)) := by rw [← List.append_assoc]; exact get_old hf
      have hh2 : (h ++ (g ++ g2))[jh]? = some (.lst (hs.map nD)) := by rw [← List.append_assoc]; exact get_old hh
      obtain ⟨a1, a2, a3⟩ := ad_of (g ++ g2) fs es j hf2 c3 (by omega)
      obtain ⟨a', jh', fs', hs', g', y7, y8, lp, r1, r2, r3, r4, r5, r6, r7⟩ := go jh (fs ++ es) hs ((g ++ g2).set 0 (.lst ((fs ++ es).map nD))) (some (.int (i : Nat))) (some s.enc) (by omega) a2 (a3 _ _ jl hh2) jl nd hb (fun m hm => by
        rcases List.mem_append.mp hm with hm | hm
        · exact fb m hm
        · exact ((c5 m).mp hm).2.1) (by rw [List.length_append, Nat.add_mul]; omega)
      refine ⟨a', jh', fs', hs', g', y7, y8, ?_, r1, r2, r3, r4, r5, r6, fun e => ?_⟩
      · have ev : b__law_comes_1 (m__law_comes n) (m__law_comes_behind n) (m__law_comes_often n) [some s0.enc, some (.int (a : Nat)), some (.fl (row.map nD)), some (.int (k : Nat)), some (.ref h.length), some (.ref jh), some (nD s0.lowI), some (.int (i : Nat)), some s.enc] (h ++ g) = .nx [some s0.enc, some (.int ((a + s.wt : Nat) : Int)), some (.fl (row.map nD)), some (.int (k : Nat)), some (.ref h.length), some (.ref jh), some (nD s0.lowI), some (.int (i : Nat)), some s.enc] (h ++ (g ++ g2).set 0 (.lst ((fs ++ es).map nD))) := by
          unfold b__law_comes_1
          refine stS (env2 := [some s0.enc, some (.int (a : Nat)), some (.fl (row.map nD)), some (.int (k : Nat)), some (.ref h.length), some (.ref jh), some (nD s0.lowI), some (.int (i : Nat)), some s.enc]) (h2 := h ++ (g ++ g2).set 0 (.lst ((fs ++ es).map nD))) ?_ (aug _ _)
          rw [ap_msIf, lEit, eit_ev rfl, bindS_ok, hE, if_pos rfl]
          generalize h ++ (g ++ g2).set 0 (.lst ((fs ++ es).map nD)) = H3 at *
          generalize h ++ (g ++ g2) = H2 at *
          generalize h ++ g = H1 at *
          generalize s.enc = E at *
          generalize s0.enc = E0 at *
          generalize row.map nD = RW at *
          simp [c1, a1]
        rw [ev, on_nx]
        exact lp
      · have r7 := r7 e
        rw [hE] at r7
        rw [r7]
        unfold FinC
        rw [hE, if_pos rfl, if_pos rfl, List.mem_append, c5]
        show _ ↔ _ ∨ Cut (fun R => s.crs a R ∨ Sh.crsO l (a + s.wt) R) row k e
        rw [cut_or, or_assoc]
    | false =>
      -- the first kept
      obtain ⟨g1, fs1, hfs1, e1, f1, h1⟩ : ∃ (g1 : IH) (fs1 : List Nat), fs1 = (if s0.tf i = true then fs ++ hs else fs) ∧ msIf (mAnd (mTb (mOp (dEq false) (mOp dIx (mVar 0) (mC (.int 0))) (mC (.str kTim)))) (mTb (mOp dGe (mVar 7) (mVar 6)))) (msAug 4 dIAddL (mVar 5)) (msNil) [some s0.enc, some (.int (a : Nat)), some (.fl (row.map nD)), some (.int (k : Nat)), some (.ref h.length), some (.ref jh), some (nD s0.lowI), some (.int (i : Nat)), some s.enc] (h ++ g) = .nx [some s0.enc, some (.int (a : Nat)), some (.fl (row.map nD)), some (.int (k : Nat)), some (.ref h.length), some (.ref jh), some (nD s0.lowI), some (.int (i : Nat)), some s.enc] (h ++ g1) ∧ (h ++ g1)[h.length]? = some (.lst (fs1.map nD)) ∧ (h ++ g1)[jh]? = some (.lst (hs.map nD)) := by
        have hl := told_len (P := fun _ => True) nd hb
        cases tf : s0.tf i with
        | true =>
          obtain ⟨a1, a2, a3⟩ := ad_of g fs hs jh hf hh (by omega)
          refine ⟨_, fs ++ hs, by rw [if_pos rfl], ?_, a2, a3 _ _ jl hh⟩
          rw [ap_msIf, tf_ev rfl rfl rfl, bindS_ok, tf, if_pos rfl]
          generalize h ++ g.set 0 (.lst ((fs ++ hs).map nD)) = H3 at *
          generalize h ++ g = H1 at *
          generalize s.enc = E at *
          generalize s0.enc = E0 at *
          generalize row.map nD = RW at *
          simp [a1]
        | false =>
          refine ⟨g, fs, by rw [if_neg (by simp)], ?_, hf, hh⟩
          rw [ap_msIf, tf_ev rfl rfl rfl, bindS_ok, tf, if_neg (by simp)]
          rfl
      obtain ⟨g2, j, es, c1, c2, c3, c4, c5⟩ := hB s List.mem_cons_self a jh hs (h ++ g1) h1 nd hb
      rw [List.append_assoc] at c3 c1
      have eb : ∀ e ∈ es, e ≤ row.length := fun e he => by
        obtain ⟨m, _, c⟩ := (c5 e).mp he
        exact c.2.1
      have hf2 : (h ++ (g1 ++ g2))[h.length]? = some (.lst (fs1.map nD)) := by rw [← List.append_assoc]; exact get_old f1
      have gl : h.length < (h ++ g1).length := (List.getElem?_eq_some_iff.mp f1).1
      have hl := told_len (P := fun _ => True) nd hb
      obtain ⟨a', jh', fs', hs', g', y7, y8, lp, r1, r2, r3, r4, r5, r6, r7⟩ := go j fs1 es (g1 ++ g2) (some (.int (i : Nat))) (some s.enc) (by omega) hf2 c3 (by omega) c4 eb (fun m hm => by
        rw [hfs1] at hm
        split at hm
        · rcases List.mem_append.mp hm with hm | hm
          · exact fb m hm
          · exact hb m hm
        · exact fb m hm) (by
        rw [hfs1]
        split
        · rw [List.length_append, Nat.add_mul]; omega
        · rw [Nat.add_mul]; omega)
      refine ⟨a', jh', fs', hs', g', y7, y8, ?_, r1, r2, r3, r4, r5, r6, fun e => ?_⟩
      · have ev : b__law_comes_1 (m__law_comes n) (m__law_comes_behind n) (m__law_comes_often n) [some s0.enc, some (.int (a : Nat)), some (.fl (row.map nD)), some (.int (k : Nat)), some (.ref h.length), some (.ref jh), some (nD s0.lowI), some (.int (i : Nat)), some s.enc] (h ++ g) = .nx [some s0.enc, some (.int ((a + s.wt : Nat) : Int)), some (.fl (row.map nD)), some (.int (k : Nat)), some (.ref h.length), some (.ref j), some (nD s0.lowI), some (.int (i : Nat)), some s.enc] (h ++ (g1 ++ g2)) := by
          unfold b__law_comes_1
          refine stS (env2 := [some s0.enc, some (.int (a : Nat)), some (.fl (row.map nD)), some (.int (k : Nat)), some (.ref h.length), some (.ref j), some (nD s0.lowI), some (.int (i : Nat)), some s.enc]) (h2 := h ++ (g1 ++ g2)) ?_ (aug _ _)
          rw [ap_msIf, lEit, eit_ev rfl, bindS_ok, hE, if_neg (by simp)]
          refine stS e1 ?_
          generalize h ++ (g1 ++ g2) = H3 at *
          generalize h ++ g1 = H2 at *
          generalize s.enc = E at *
          generalize s0.enc = E0 at *
          generalize row.map nD = RW at *
          simp [c1]
        rw [ev, on_nx]
        exact lp
      · have r7 := r7 e
        rw [hE] at r7
        rw [r7, hfs1]
        exact fin_step hb hE c5
end
end NR

set_option Elab.async false
set_option linter.all false
set_option maxRecDepth 100000
set_option maxHeartbeats 4000000
namespace NR
open PySem PySem.Spec PyProof.Rows L2
section
variable {row : List Nat} {t : List Nat}
theorem key_manyI {s : Sh} : s.key = kMany ↔ ∃ x, s = .many x := by
  constructor
  · intro h
    cases s with
    | one _ => exact absurd (show kOne = kMany from h) (by decide)
    | row _ => exact absurd (show kRow = kMany from h) (by decide)
    | eit _ => exact absurd (show kEit = kMany from h) (by decide)
    | many x => exact ⟨x, rfl⟩
    | tim _ _ _ => exact absurd (show kTim = kMany from h) (by decide)
  · rintro ⟨x, rfl⟩
    rfl
theorem fin_all {s : Sh} (no : ∀ x, s ≠ .one x) (nm : ∀ x, s ≠ .many x) {k a e : Nat} : FinC row s k s.pts 0 a [] [k] e ↔ Cut (s.crs a) row k e := by
  unfold FinC
  simp only [List.not_mem_nil, false_or, List.mem_singleton, exists_eq_left]
  cases s with
  | one x => exact absurd rfl (no x)
  | many x => exact absurd rfl (nm x)
  | eit l => exact Iff.rfl
  | row l =>
    have : crsG (Sh.tf (.row l)) (Sh.pts (.row l)) 0 a = Sh.crsS l a := crsG_row
    rw [this]
    exact Iff.rfl
  | tim s lo hi =>
    have : crsG (Sh.tf (.tim s lo hi)) (Sh.pts (.tim s lo hi)) 0 a = TimC (fun b R => s.crs b R) s.wt lo hi 0 a := crsG_tim
    rw [this]
    exact Iff.rfl
theorem low_ev {s : Sh} {h : IH} {env : EV} (e0 : env[0]? = some (some s.enc)) : mIf (mTb (mOp (dEq false) (mOp dIx (mVar 0) (mC (.int 0))) (mC (.str kTim)))) (mOp dIx (mVar 0) (mC (.int 2))) (mC (.int 0)) env h = .ok (nD s.lowI) h := by
  have h0 := enc0 s h
  cases s with
  | tim x lo hi =>
    have h2 : dIx (Sh.enc (.tim x lo hi)) (.int 2) h = .ok (nD lo) h := by unfold Sh.enc; exact ix2
    generalize Sh.enc (.tim x lo hi) = E at *
    simp [e0, h0, h2, Sh.key, Sh.lowI]
  | one x =>
    generalize Sh.enc (.one x) = E at *
    have n1 : ¬ kOne = kTim := by decide
    simp [e0, h0, Sh.key, Sh.lowI, n1, nD]
  | row x =>
    generalize Sh.enc (.row x) = E at *
    have n1 : ¬ kRow = kTim := by decide
    simp [e0, h0, Sh.key, Sh.lowI, n1, nD]
  | eit x =>
    generalize Sh.enc (.eit x) = E at *
    have n1 : ¬ kEit = kTim := by decide
    simp [e0, h0, Sh.key, Sh.lowI, n1, nD]
  | many x =>
    generalize Sh.enc (.many x) = E at *
    have n1 : ¬ kMany = kTim := by decide
    simp [e0, h0, Sh.key, Sh.lowI, n1, nD]
theorem nat_zero {n : Nat} : decide ((n : Int) = 0) = decide (n = 0) := by
  by_cases h : n = 0
  · subst h
    rfl
  · rw [decide_eq_false h, decide_eq_false (by omega)]
theorem comes_all (N11 : row.length ≤ 11) : ∀ (d n : Nat) (s : Sh), ShG t d s → 2 * d ≤ n → d ≤ 5 → CmC row n s
  | 0, _, _, hs, _, _ => by cases hs
  | d + 1, 0, _, _, l, _ => by omega
  | d + 1, 1, _, _, l, _ => by omega
  | d + 1, n + 2, s, hs, l, d5 => fun a k h hk => by
    have hd := hs.shd
    have e3 := lwt hd (by omega) h
    have e4 := enc0 s h
    rw [show m__law_comes (n + 2) = B__law_comes (m__law_comes (n + 1)) (m__law_comes_behind (n + 1)) (m__law_comes_often (n + 1)) from rfl]
    by_cases w0 : s.wt = 0
    · refine ⟨[.lst [nD k]], h.length, [k], callC_new rfl ?_ (Nat.le_refl _), Nat.le_refl _, by simp, by simp, fun e => ?_⟩
      · rw [w0] at e3
        have e3 : callC 1 (m__law_weight 24) [s.enc] h = .ok (.int 0) h := e3
        unfold B__law_comes
        rw [ap_fnM]
        refine stR ?_
        generalize s.enc = E at *
        generalize row.map nD = RW at *
        simp [e3, newL_bindS, nD]
      · have : s.crs a = fun R => R = [] := funext fun R => propext (crs0 hs w0)
        rw [this, cut_nil, List.mem_singleton]
        exact ⟨fun h => ⟨h, hk⟩, fun h => h.1⟩
    have w0' : ¬ ((s.wt : Nat) : Int) = 0 := by omega
    by_cases ko : s.key = kOne
    · obtain ⟨x, rfl⟩ := key_one.mp ko
      have cu : ∀ e, Cut (Sh.crs (.one x) a) row k e ↔ e = k + 1 ∧ row[k]? = some (a + 1) := fun e => cut_one
      have rl : (row.map nD).length = row.length := List.length_map ..
      by_cases c : row[k]? = some (a + 1)
      · have kl := (List.getElem?_eq_some_iff.mp c).1
        have ix : dIx (.fl (row.map nD)) (.int (k : Nat)) h = .ok (.int ((a + 1 : Nat) : Int)) h := dIx_seq (xs := row.map nD) rfl (by omega) (by
          rw [Int.toNat_natCast, List.getElem?_map, c]
          rfl)
        refine ⟨[.lst [nD (k + 1)]], h.length, [k + 1], callC_new rfl ?_ (Nat.le_refl _), Nat.le_refl _, by simp, by simp, fun e => ?_⟩
        · unfold B__law_comes
          rw [lOne, ap_fnM]
          generalize Sh.enc (.one x) = E at *
          refine stN (env2 := [some E, some (.int (a : Nat)), some (.fl (row.map nD)), some (.int (k : Nat)), none, none, none, none, none]) (h2 := h) (by
            generalize row.map nD = RW at *
            simp [e3, w0, w0']) ?_
          refine stR ?_
          have kl' : ((k : Nat) : Int) < (row.length : Nat) := by omega
          generalize row.map nD = RW at *
          simp [e4, ko, rl, ix, kl, newL_bindS, newL_bind, nD]
        · rw [cu, List.mem_singleton]
          exact ⟨fun h => ⟨h, c⟩, fun h => h.1⟩
      · refine ⟨[.lst []], h.length, [], callC_new rfl ?_ (Nat.le_refl _), Nat.le_refl _, by simp, by simp, fun e => ?_⟩
        · unfold B__law_comes
          rw [lOne, ap_fnM]
          generalize Sh.enc (.one x) = E at *
          refine stN (env2 := [some E, some (.int (a : Nat)), some (.fl (row.map nD)), some (.int (k : Nat)), none, none, none, none, none]) (h2 := h) (by
            generalize row.map nD = RW at *
            simp [e3, w0, w0']) ?_
          refine stR ?_
          by_cases kl : k < row.length
          · have kl' : ((k : Nat) : Int) < (row.length : Nat) := by omega
            have ix : dIx (.fl (row.map nD)) (.int (k : Nat)) h = .ok (.int (row[k] : Nat)) h := dIx_seq (xs := row.map nD) rfl (by omega) (by
              rw [Int.toNat_natCast, List.getElem?_map, List.getElem?_eq_getElem kl]
              rfl)
            have ne : ¬ ((row[k] : Nat) : Int) = (a : Nat) + 1 := fun z => c (by
              rw [List.getElem?_eq_getElem kl]
              congr 1
              omega)
            generalize row[k] = V at *
            generalize row.map nD = RW at *
            simp [e4, ko, rl, ix, kl, ne, newL_bindS, newL_bind]
          · have kl' : ¬ ((k : Nat) : Int) < (row.length : Nat) := by omega
            generalize row.map nD = RW at *
            simp [e4, ko, rl, kl, newL_bindS, newL_bind]
        · rw [cu]
          exact ⟨fun h => (by cases h), fun h => absurd h.2 c⟩
    have no : ∀ x, s ≠ .one x := fun x hx => ko (key_one.mpr ⟨x, hx⟩)
    by_cases km : s.key = kMany
    · obtain ⟨x, rfl⟩ := key_manyI.mp km
      have hx : ShG t d x := by cases hs with | many h => exact h
      obtain ⟨g, j, es, c1, c2, c3, c4, c5⟩ := often_call (h := h) (E := x.enc) (a := a) (n := n) N11 (fun k h hk => comes_all N11 d n x hx (by omega) (by omega) a k h hk) hk
      refine ⟨g, j, es, callC_new rfl ?_ c2, c2, c3, c4, c5⟩
      have i1 : dIx (Sh.enc (.many x)) (.int 1) h = .ok x.enc h := by
        show dIx (.tup [.str kMany, x.enc]) (.int 1) h = _
        exact ix1
      unfold B__law_comes
      rw [lOne, show ([109, 97, 110, 121] : List Nat) = kMany from rfl, ap_fnM]
      generalize Sh.enc (.many x) = E at *
      generalize x.enc = EX at *
      generalize row.map nD = RW at *
      have n1 : ¬ kMany = kOne := by decide
      refine stN (env2 := [some E, some (.int (a : Nat)), some (.fl RW), some (.int (k : Nat)), none, none, none, none, none]) (h2 := h) (by simp [e3, w0, w0']) ?_
      refine stN (env2 := [some E, some (.int (a : Nat)), some (.fl RW), some (.int (k : Nat)), none, none, none, none, none]) (h2 := h) (by simp [e4, km, n1]) ?_
      refine stR ?_
      simp [e4, km, i1, c1]
    have nm : ∀ x, s ≠ .many x := fun x hx => km (key_manyI.mpr ⟨x, hx⟩)
    have pg : ∀ y ∈ s.pts, ShG t d y := by
      cases hs with
      | one => exact fun y hy => (by cases hy)
      | row n h => exact h
      | eit n n1 h => exact h
      | many h => exact absurd rfl (nm _)
      | tim h => exact fun y hy => by rw [Sh.pts, List.mem_replicate] at hy; rw [hy.2]; exact h
    obtain ⟨a', jh', fs', hs', g', y7, y8, lp, r1, r2, r3, r4, r5, r6, r7⟩ := comes_loop (row := row) (h := h) (d := d) (n := n + 1) (s0 := s) (k := k) N11 hk (by omega) s.pts (fun y hy => (pg y hy).shd) (fun y hy => comes_all N11 d (n + 1) y (pg y hy) (by omega) (by omega)) (fun y hy a jh hs h hh nd hb => behind_call (h := h) (E := y.enc) (a := a) (n := n) N11 (fun k h hk => comes_all N11 d n y (pg y hy) (by omega) (by omega) a k h hk) hh nd hb) 0 a (h.length + 1) [] [k] [.lst [], .lst [nD k]] none none (by have := pts_len hd; omega) (by simp) (by simp) (by omega) (by simp) (by simpa using hk) (by simp) (by simp)
    have e' : (fun (j : Nat) (x : D) => D.tup [.int ((0 + j : Nat) : Int), x]) = fun j x => D.tup [.int (j : Nat), x] := by
      funext j x
      rw [Nat.zero_add]
    rw [e'] at lp
    have la := law_laid_call hd no (h ++ [.lst [], .lst [nD k]])
    -- what is found at last
    obtain ⟨g2, fs2, e5, f2, b2, l2, m2⟩ : ∃ (g2 : IH) (fs2 : List Nat), msIf (mTb (mOp (dEq true) (mOp dIx (mVar 0) (mC (.int 0))) (mC (.str kEit)))) (msAug 4 dIAddL (mVar 5)) (msNil) [some s.enc, some (.int (a' : Nat)), some (.fl (row.map nD)), some (.int (k : Nat)), some (.ref h.length), some (.ref jh'), some (nD s.lowI), y7, y8] (h ++ g') = .nx [some s.enc, some (.int (a' : Nat)), some (.fl (row.map nD)), some (.int (k : Nat)), some (.ref h.length), some (.ref jh'), some (nD s.lowI), y7, y8] (h ++ g2) ∧ (h ++ g2)[h.length]? = some (.lst (fs2.map nD)) ∧ (∀ e ∈ fs2, e ≤ row.length) ∧ fs2.length ≤ 200 ∧ ∀ e, e ∈ fs2 ↔ Cut (s.crs a) row k e := by
      have h0 := enc0 s (h ++ g')
      have ke := key_eit (s := s)
      cases hE : s.isE with
      | true =>
        rw [hE, decide_eq_true_eq] at ke
        refine ⟨g', fs', ?_, r1, r4, by omega, fun e => ?_⟩
        · generalize h ++ g' = H1 at *
          generalize s.enc = E at *
          generalize row.map nD = RW at *
          simp [h0, ke]
        · have := r7 e
          rw [hE] at this
          rw [← fin_all no nm, ← this]
          simp
      | false =>
        rw [hE, decide_eq_false_iff_not] at ke
        have gl : 0 < g'.length := by
          have := (List.getElem?_eq_some_iff.mp r1).1
          rw [List.length_append] at this
          omega
        have ad := dIAddL_new (h' := []) r1 r2 (by rw [List.length_map, List.length_map]; omega)
        rw [← List.map_append, set_app0] at ad
        refine ⟨g'.set 0 (.lst ((fs' ++ hs').map nD)), fs' ++ hs', ?_, by rw [List.getElem?_append_right (Nat.le_refl _), Nat.sub_self, List.getElem?_set_self gl], fun e he => ?_, by rw [List.length_append]; omega, fun e => ?_⟩
        · generalize h ++ g'.set 0 (.lst ((fs' ++ hs').map nD)) = H2 at *
          generalize h ++ g' = H1 at *
          generalize s.enc = E at *
          generalize row.map nD = RW at *
          simp [h0, ke, ad]
        · rcases List.mem_append.mp he with he | he
          · exact r4 e he
          · exact r3 e he
        · have := r7 e
          rw [hE] at this
          rw [← fin_all no nm, ← this, List.mem_append]
          simp
    refine ⟨g2 ++ [.lst (((List.range (row.length + 1)).filter fun q => decide (q ∈ fs2)).map nD)], (h ++ g2).length, (List.range (row.length + 1)).filter fun q => decide (q ∈ fs2), callC_new rfl ?_ (by rw [List.length_append]; omega), by rw [List.length_append]; omega, ?_, frg_nd, fun e => by rw [frg_mem b2, m2]⟩
    · unfold B__law_comes
      rw [lOne, lEit, show ([109, 97, 110, 121] : List Nat) = kMany from rfl, show ([116, 105, 109, 101, 115] : List Nat) = kTim from rfl, ap_fnM]
      refine stN (env2 := [some s.enc, some (.int (a : Nat)), some (.fl (row.map nD)), some (.int (k : Nat)), none, none, none, none, none]) (h2 := h) (by
        generalize s.enc = E at *
        generalize row.map nD = RW at *
        simp [e3, w0, w0']) ?_
      refine stN (env2 := [some s.enc, some (.int (a : Nat)), some (.fl (row.map nD)), some (.int (k : Nat)), none, none, none, none, none]) (h2 := h) (by
        generalize s.enc = E at *
        generalize row.map nD = RW at *
        simp [e4, ko]) ?_
      refine stN (env2 := [some s.enc, some (.int (a : Nat)), some (.fl (row.map nD)), some (.int (k : Nat)), none, none, none, none, none]) (h2 := h) (by
        generalize s.enc = E at *
        generalize row.map nD = RW at *
        simp [e4, km]) ?_
      refine stN (env2 := [some s.enc, some (.int (a : Nat)), some (.fl (row.map nD)), some (.int (k : Nat)), some (.ref h.length), none, none, none, none]) (h2 := h ++ [.lst []]) (by
        generalize s.enc = E at *
        generalize row.map nD = RW at *
        simp [newL_bindS]) ?_
      refine stN (env2 := [some s.enc, some (.int (a : Nat)), some (.fl (row.map nD)), some (.int (k : Nat)), some (.ref h.length), some (.ref (h.length + 1)), none, none, none]) (h2 := h ++ [.lst [], .lst [nD k]]) (by
        generalize s.enc = E at *
        generalize row.map nD = RW at *
        simp [newL_bindS, nD]) ?_
      refine stN (env2 := [some s.enc, some (.int (a : Nat)), some (.fl (row.map nD)), some (.int (k : Nat)), some (.ref h.length), some (.ref (h.length + 1)), some (nD s.lowI), none, none]) (h2 := h ++ [.lst [], .lst [nD k]]) (by
        rw [ap_msSet, low_ev rfl]
        rfl) ?_
      refine stN ((for_st (ds := (Sh.encs s.pts).mapIdx fun j x => D.tup [.int (j : Nat), x]) (h2 := h ++ [.lst [], .lst [nD k]]) (by
        unfold iEnum
        generalize s.enc = E at *
        generalize Sh.encs s.pts = EP at *
        generalize h ++ [Cell.lst [], Cell.lst [nD k]] = H1 at *
        simp [la, stOf])).trans lp) ?_
      refine stN e5 ?_
      rw [ap_msRet, ss_ref (N := row.length) (f := h.length) (w := fs2) (by simp) f2 b2 (by omega) (by omega), newL_bindS, fin_rt, List.append_assoc]
    · rw [← List.append_assoc]
      exact get_last
end
end NR

set_option Elab.async false
set_option linter.all false
set_option maxRecDepth 100000
set_option maxHeartbeats 4000000
namespace NR
open PySem PySem.Spec PyProof.Rows L2
section
variable {t : List Nat} {e n : Nat} {z : Cell}
/-- what _law_shape does -/
def ShOkW (t : List Nat) (e n : Nat) : Prop := ∀ (b r i : Nat) (pz : Int) (z c : Cell) (g : IH), g[i]? = some (pu r) → 1 ≤ r → r ≤ 24 → Pn (b + 20 * r) c →
    ∃ (x : D) (r' : Nat) (c' : Cell), callC 5 (m__law_shape n) [.ref 1, .str t, .int (e : Nat), .int pz, .ref (i + 1 + 1)] (z :: c :: g) = .ok x (z :: c' :: g.set i (pu r')) ∧ Sg t e x ∧ r' + (partsD e x).length = r ∧ Pn (b + 20 * r') c' ∧ (0 ≤ pz → weightD e x ≤ pz)
theorem parts_loopW (ok : ShOkW t e n) (e1 : 1 ≤ e) (en : e ≤ 24) {i : Nat} {d : Int} (dm : d - 1 = (e : Nat)) : ∀ (ds : List D) (b r : Nat) (pz : Int) (c : Cell) (g : IH) (ys : List D) (x5 x6 x7 x9 x10 : Option D), g[i]? = some (pu r) → r ≤ 24 → ys.length + ds.length ≤ 6 → (∀ y ∈ ys, Sg t e y) → Pn (b + 20 * r) c →
    ∃ (pz' : Int) (r' : Nat) (c' : Cell) (ys' : List D) (y9 y10 : Option D), forL (gSet 9) (b__law_shape_1 (m__law_shape n)) ds [some (.ref 1), some (.str t), some (.int d), some (.int pz), some (.ref (i + 1 + 1)), x5, x6, x7, some (.ref (g.length + 2)), x9, x10] (z :: c :: (g ++ [.lst ys])) =
      .nx [some (.ref 1), some (.str t), some (.int d), some (.int pz'), some (.ref (i + 1 + 1)), x5, x6, x7, some (.ref (g.length + 2)), y9, y10] (z :: c' :: (g.set i (pu r') ++ [.lst ys'])) ∧ (∀ y ∈ ys', Sg t e y) ∧ ys'.length ≤ ys.length + ds.length ∧ ys.length ≤ ys'.length ∧ (0 < ds.length → 0 < r → ys.length < ys'.length) ∧ r' + ((ys'.map (partsD e)).flatten).length = r + ((ys.map (partsD e)).flatten).length ∧ Pn (b + 20 * r') c' ∧ (0 ≤ pz → 0 ≤ pz' ∧ pz' + (ys'.map (weightD e)).sum = pz + (ys.map (weightD e)).sum)
  | [], b, r, pz, c, g, ys, x5, x6, x7, x9, x10, hg, r24, yl, hy, hp => ⟨pz, r, c, ys, x9, x10, by rw [set_same hg]; rfl, hy, by simp, Nat.le_refl _, fun h => absurd h (by simp), rfl, hp, fun h => ⟨h, rfl⟩⟩
  | dd :: ds, b, r, pz, c, g, ys, x5, x6, x7, x9, x10, hg, r24, yl, hy, hp => by
    rw [List.length_cons] at yl
    have il : i < g.length := (List.getElem?_eq_some_iff.mp hg).1
    have rix : dIx (.ref (i + 1 + 1)) (.int 0) (z :: c :: (g ++ [.lst ys])) = .ok (.int (r : Nat)) (z :: c :: (g ++ [.lst ys])) := dIx_ref (xs := [.int (r : Nat)]) (by
      show (g ++ [Cell.lst ys])[i]? = _
      rw [List.getElem?_append_left il]
      exact hg) (by omega) rfl
    rw [forL_cons (e1 := [some (.ref 1), some (.str t), some (.int d), some (.int pz), some (.ref (i + 1 + 1)), x5, x6, x7, some (.ref (g.length + 2)), some dd, x10]) rfl]
    by_cases r0 : 0 < r
    · obtain ⟨x, r', c1, e2, sx, rp, p1, wx⟩ := ok b r i pz z c (g ++ [.lst ys]) (by rw [List.getElem?_append_left il]; exact hg) r0 r24 hp
      rw [set_app_lt il] at e2
      have wc := lweight_call e 24 sx.sh en (z :: c1 :: (g.set i (pu r') ++ [.lst ys]))
      have c0 : (z :: c1 :: (g.set i (pu r') ++ [Cell.lst ys]))[g.length + 2]? = some (.lst ys) := by
        show (g.set i (pu r') ++ [Cell.lst ys])[g.length]? = _
        rw [show g.length = (g.set i (pu r')).length by rw [List.length_set], get_last]
      have ty := tyD_ref c0
      have ap := append_at (y := x) c0 (by omega)
      have se : (z :: c1 :: (g.set i (pu r') ++ [Cell.lst ys])).set (g.length + 2) (.lst (ys ++ [x])) = z :: c1 :: (g.set i (pu r') ++ [.lst (ys ++ [x])]) := by
        show z :: c1 :: (g.set i (pu r') ++ [Cell.lst ys]).set g.length _ = _
        rw [show g.length = (g.set i (pu r')).length by rw [List.length_set], set_last]
      rw [se] at ap
      obtain ⟨pz', r'', c', ys', y9, y10, ih, h1, h2, h3, h4, h5, h6, h7⟩ := parts_loopW ok e1 en (i := i) dm ds b r' (pz - weightD e x) c1 (g.set i (pu r')) (ys ++ [x]) x5 x6 x7 (some dd) (some x) (get_setC hg) (by omega) (by rw [List.length_append, List.length_singleton]; omega) (fun y hy' => by
        rcases List.mem_append.mp hy' with h | h
        · exact hy y h
        · rw [List.mem_singleton] at h
          rw [h]
          exact sx) p1
      rw [List.set_set, List.length_set] at ih
      rw [List.length_append, List.length_singleton] at h2 h3
      refine ⟨pz', r'', c', ys', y9, y10, ?_, h1, by rw [List.length_cons]; omega, by omega, fun _ _ => by omega, ?_, h6, fun p0 => ?_⟩
      · have q0 : (0 : Int) < (r : Nat) := by omega
        have e3 : b__law_shape_1 (m__law_shape n) [some (.ref 1), some (.str t), some (.int d), some (.int pz), some (.ref (i + 1 + 1)), x5, x6, x7, some (.ref (g.length + 2)), some dd, x10] (z :: c :: (g ++ [.lst ys])) = .nx [some (.ref 1), some (.str t), some (.int d), some (.int (pz - weightD e x)), some (.ref (i + 1 + 1)), x5, x6, x7, some (.ref (g.length + 2)), some dd, some x] (z :: c1 :: (g.set i (pu r') ++ [.lst (ys ++ [x])])) := by
          unfold b__law_shape_1
          generalize g.set i (pu r') ++ [Cell.lst (ys ++ [x])] = G2 at *
          generalize g.set i (pu r') ++ [Cell.lst ys] = G1 at *
          generalize g ++ [Cell.lst ys] = G0 at *
          generalize g.length + 2 = N at *
          rw [← dm] at e2
          simp [rix, r0, q0, e2, wc, ty, ap]
        rw [e3, on_nx]
        exact ih
      · rw [List.map_append, List.flatten_append, List.length_append] at h5
        simp only [List.map_cons, List.map_nil, List.flatten_cons, List.flatten_nil, List.append_nil] at h5
        omega
      · have wx := wx p0
        have h7 := h7 (by omega)
        rw [List.map_append, List.sum_append, List.map_cons, List.map_nil, List.sum_cons, List.sum_nil] at h7
        exact ⟨h7.1, by omega⟩
    · have r0' : ¬ (0 : Int) < (r : Nat) := by omega
      obtain ⟨pz', r'', c', ys', y9, y10, ih, h1, h2, h3, h4, h5, h6, h7⟩ := parts_loopW ok e1 en (i := i) dm ds b r pz c g ys x5 x6 x7 (some dd) x10 hg r24 (by omega) hy hp
      refine ⟨pz', r'', c', ys', y9, y10, ?_, h1, by rw [List.length_cons]; omega, h3, fun _ h => absurd h r0, h5, h6, h7⟩
      have e3 : b__law_shape_1 (m__law_shape n) [some (.ref 1), some (.str t), some (.int d), some (.int pz), some (.ref (i + 1 + 1)), x5, x6, x7, some (.ref (g.length + 2)), some dd, x10] (z :: c :: (g ++ [.lst ys])) = .nx [some (.ref 1), some (.str t), some (.int d), some (.int pz), some (.ref (i + 1 + 1)), x5, x6, x7, some (.ref (g.length + 2)), some dd, x10] (z :: c :: (g ++ [.lst ys])) := by
        unfold b__law_shape_1
        generalize g ++ [Cell.lst ys] = G0 at *
        generalize g.length + 2 = N at *
        simp [rix, r0, r0']
      rw [e3, on_nx]
      exact ih
end
theorem kshapeW {t : List Nat} (tg : Tgn t) : ∀ (e n : Nat), 1 ≤ e → e ≤ n → e ≤ 5 → ShOkW t e n
  | 0, _, h, _, _ => by omega
  | e + 1, 0, _, h, _ => by omega
  | e + 1, n + 1, _, en, e5 => fun b r i pz z c g hg r1 r24 hp => by
    rw [m__law_shape_succ]
    have il : i < g.length := (List.getElem?_eq_some_iff.mp hg).1
    have hg1 : (g.set i (pu (r - 1)))[i]? = some (pu (r - 1)) := get_setC hg
    have gl : getL (.ref (i + 1 + 1)) (.int 0) (z :: c :: g) = some (.int (r : Nat)) := getL_ref (xs := [.int (r : Nat)]) hg (by omega) rfl
    have pt : putD (.ref (i + 1 + 1)) (.int 0) (.int ((r : Nat) - 1)) (z :: c :: g) = some (z :: c :: g.set i (pu (r - 1))) := by
      have hh : (z :: c :: g)[i + 1 + 1]? = some (.lst [.int (r : Nat)]) := hg
      rw [putD_ref hh (by omega) (by simp), show ((r : Nat) : Int) - 1 = ((r - 1 : Nat) : Int) by omega]
      rfl
    have Gs : ∀ v, (g.set i (pu (r - 1))).set i v = g.set i v := fun v => List.set_set ..
    have gll : (g.set i (pu (r - 1))).length = g.length := List.length_set
    obtain ⟨u, c1, e1, u1, p1⟩ := draw_call (b := b + 19 + 20 * (r - 1)) (z := z) (c := c) (g := g.set i (pu (r - 1))) (m := 9) (hp.mono (by omega)) (by omega) (by omega)
    have rix : ∀ c : Cell, dIx (.ref (i + 1 + 1)) (.int 0) (z :: c :: g.set i (pu (r - 1))) = .ok (.int ((r - 1 : Nat) : Int)) (z :: c :: g.set i (pu (r - 1))) := fun c => dIx_ref (xs := [.int ((r - 1 : Nat) : Int)]) hg1 (by omega) rfl
    have a1 : (msAugI dISub (mVar 4) (mC (.int 0)) (mC (.int 1))) [some (.ref 1), some (.str t), some (.int ((e + 1 : Nat) : Int)), some (.int pz), some (.ref (i + 1 + 1)), none, none, none, none, none, none] (z :: c :: g) = .nx [some (.ref 1), some (.str t), some (.int ((e + 1 : Nat) : Int)), some (.int pz), some (.ref (i + 1 + 1)), none, none, none, none, none, none] (z :: c :: g.set i (pu (r - 1))) := by
      generalize ((e + 1 : Nat) : Int) = d at *
      simp [gl, pt]
    generalize hG : g.set i (pu (r - 1)) = G at *
    have a2 : (msSet 5 (mCall 2 (m__law_draw) (mCons (mVar 0) (mCons (mC (.int 9)) (mNil))))) [some (.ref 1), some (.str t), some (.int ((e + 1 : Nat) : Int)), some (.int pz), some (.ref (i + 1 + 1)), none, none, none, none, none, none] (z :: c :: G) = .nx [some (.ref 1), some (.str t), some (.int ((e + 1 : Nat) : Int)), some (.int pz), some (.ref (i + 1 + 1)), some (.int (u : Nat)), none, none, none, none, none] (z :: c1 :: G) := by
      generalize ((e + 1 : Nat) : Int) = d at *
      simp [e1]
    have lenG : ∀ c' : Cell, (z :: c :: g).length = (z :: c' :: G).length := fun c' => by simp [← gll]
    by_cases leaf : e + 1 = 1 ∨ r - 1 < 1 ∨ u = 0
    · -- a leaf
      have cond : (mOr (mTb (mOp (dEq false) (mVar 2) (mC (.int 1)))) (mOr (mTb (mOp dLt (mOp dIx (mVar 4) (mC (.int 0))) (mC (.int 1)))) (mTb (mOp (dEq false) (mVar 5) (mC (.int 0)))))) [some (.ref 1), some (.str t), some (.int ((e + 1 : Nat) : Int)), some (.int pz), some (.ref (i + 1 + 1)), some (.int (u : Nat)), none, none, none, none, none] (z :: c1 :: G) = .ok true (z :: c1 :: G) := by
        have rx := rix c1
        by_cases q1 : e + 1 = 1
        · have q1' : ((e + 1 : Nat) : Int) = 1 := by omega
          rw [q1']
          simp
        · have q1' : ¬ ((e + 1 : Nat) : Int) = 1 := by omega
          generalize ((e + 1 : Nat) : Int) = d at *
          by_cases q2 : r - 1 < 1
          · have q2' : ((r - 1 : Nat) : Int) < 1 := by omega
            generalize ((r - 1 : Nat) : Int) = rr at *
            simp [q1', rx, q2']
          · have q2' : ¬ ((r - 1 : Nat) : Int) < 1 := by omega
            have q3 : u = 0 := by omega
            generalize ((r - 1 : Nat) : Int) = rr at *
            simp [q1', rx, q2', q3]
      obtain ⟨v, c2, e2, v1, p2⟩ := draw_call (b := b + 18 + 20 * (r - 1)) (z := z) (c := c1) (g := G) (m := 8) (p1.mono (by omega)) (by omega) (by omega)
      by_cases row : pz = 0 ∨ v = 0
      · have : ∃ c3, Pn (b + 18 + 20 * (r - 1)) c3 ∧ (mOr (mTb (mOp (dEq false) (mVar 3) (mC (.int 0)))) (mTb (mOp (dEq false) (mCall 2 (m__law_draw) (mCons (mVar 0) (mCons (mC (.int 8)) (mNil)))) (mC (.int 0))))) [some (.ref 1), some (.str t), some (.int ((e + 1 : Nat) : Int)), some (.int pz), some (.ref (i + 1 + 1)), some (.int (u : Nat)), none, none, none, none, none] (z :: c1 :: G) = .ok true (z :: c3 :: G) := by
          generalize ((e + 1 : Nat) : Int) = d at *
          by_cases q1 : pz = 0
          · exact ⟨c1, p1.mono (by omega), by simp [q1]⟩
          · have q2 : v = 0 := by omega
            subst q2
            have e2 : callC 2 m__law_draw [.ref 1, .int 8] (z :: c1 :: G) = .ok (.int 0) (z :: c2 :: G) := e2
            exact ⟨c2, p2, by simp [q1, e2]⟩
        obtain ⟨c3, p3, cr⟩ := this
        refine ⟨.tup [.str kRow, .tup []], r - 1, c3, callC_len rfl ?_ (by simp), .row (by simp) (by simp), ?_, p3.mono (by omega), fun p0 => p0⟩
        · rw [hG]
          unfold B__law_shape
          rw [ap_fnM]
          simp only [List.map_cons, List.map_nil, List.length_cons, List.length_nil, List.cons_append, List.nil_append, Nat.reduceAdd, Nat.reduceSub, List.replicate]
          refine stN a1 (stN a2 (stR (h' := z :: c3 :: G) ?_))
          rw [ap_msIf, cond, bindS_ok]
          show msCons _ _ _ _ = _
          refine stRS ?_
          rw [ap_msIf, cr, bindS_ok]
          simp [kRow]
        · show r - 1 + (_ :: ((innerD _).map (partsD e)).flatten).length = r
          rw [innerD_row]
          simp
          omega
      · have q1 : ¬ pz = 0 := fun h => row (.inl h)
        have q2 : ¬ v = 0 := fun h => row (.inr h)
        have q2' : ¬ (v : Int) = 0 := by omega
        obtain ⟨s, c3, e3, s1, s6, sn, ss, p3⟩ := ones_call (b := b + 9 + 20 * (r - 1)) (z := z) (c := c2) (g := G) tg (p2.mono (by omega))
        have cr : (mOr (mTb (mOp (dEq false) (mVar 3) (mC (.int 0)))) (mTb (mOp (dEq false) (mCall 2 (m__law_draw) (mCons (mVar 0) (mCons (mC (.int 8)) (mNil)))) (mC (.int 0))))) [some (.ref 1), some (.str t), some (.int ((e + 1 : Nat) : Int)), some (.int pz), some (.ref (i + 1 + 1)), some (.int (u : Nat)), none, none, none, none, none] (z :: c1 :: G) = .ok false (z :: c2 :: G) := by
          generalize ((e + 1 : Nat) : Int) = d at *
          simp [q1, e2, q2, q2']
        refine ⟨.tup [.str kOne, .str s], r - 1, c3, callC_len rfl ?_ (by simp), .one s1 s6 sn ss, by rw [parts_one]; simp; omega, p3.mono (by omega), fun p0 => show (1 : Int) ≤ pz by omega⟩
        rw [hG]
        unfold B__law_shape
        rw [ap_fnM]
        simp only [List.map_cons, List.map_nil, List.length_cons, List.length_nil, List.cons_append, List.nil_append, Nat.reduceAdd, Nat.reduceSub, List.replicate]
        refine stN a1 (stN a2 (stR (h' := z :: c3 :: G) ?_))
        rw [ap_msIf, cond, bindS_ok]
        show msCons _ _ _ _ = _
        refine stS (env2 := [some (.ref 1), some (.str t), some (.int ((e + 1 : Nat) : Int)), some (.int pz), some (.ref (i + 1 + 1)), some (.int (u : Nat)), none, none, none, none, none]) (h2 := z :: c2 :: G) ?_ ?_
        · rw [ap_msIf, cr, bindS_ok]
          rfl
        generalize ((e + 1 : Nat) : Int) = d at *
        simp [e3, kOne]
    · have e0 : 1 ≤ e := by omega
      have r2 : 2 ≤ r := by omega
      have u0 : ¬ u = 0 := fun h => leaf (.inr (.inr h))
      have u0' : ¬ (u : Int) = 0 := by omega
      have ok := kshapeW tg e n e0 (by omega) (by omega)
      have dm : ((e + 1 : Nat) : Int) - 1 = (e : Nat) := by omega
      have a3 : ∀ s1 : MS, (msIf (mOr (mTb (mOp (dEq false) (mVar 2) (mC (.int 1)))) (mOr (mTb (mOp dLt (mOp dIx (mVar 4) (mC (.int 0))) (mC (.int 1)))) (mTb (mOp (dEq false) (mVar 5) (mC (.int 0)))))) s1 (msNil)) [some (.ref 1), some (.str t), some (.int ((e + 1 : Nat) : Int)), some (.int pz), some (.ref (i + 1 + 1)), some (.int (u : Nat)), none, none, none, none, none] (z :: c1 :: G) = .nx [some (.ref 1), some (.str t), some (.int ((e + 1 : Nat) : Int)), some (.int pz), some (.ref (i + 1 + 1)), some (.int (u : Nat)), none, none, none, none, none] (z :: c1 :: G) := fun s1 => by
        have rx := rix c1
        have q1' : ¬ ((e + 1 : Nat) : Int) = 1 := by omega
        have q2' : ¬ ((r - 1 : Nat) : Int) < 1 := by omega
        generalize ((e + 1 : Nat) : Int) = d at *
        generalize ((r - 1 : Nat) : Int) = rr at *
        simp [q1', rx, q2', u0, u0']
      by_cases u3 : u < 3
      · have u3' : (u : Int) < 3 := by omega
        obtain ⟨x, r', c2, e2, sx, rp, p2, wx⟩ := ok b (r - 1) i pz z c1 G hg1 (by omega) (by omega) (p1.mono (by omega))
        have GG : G.set i (pu r') = g.set i (pu r') := Gs _
        rw [GG] at e2
        refine ⟨.tup [.str kMany, x], r', c2, callC_len rfl ?_ (by simp), .many sx, ?_, p2, fun p0 => ?_⟩
        · unfold B__law_shape
          rw [ap_fnM]
          simp only [List.map_cons, List.map_nil, List.length_cons, List.length_nil, List.cons_append, List.nil_append, Nat.reduceAdd, Nat.reduceSub, List.replicate]
          refine stN a1 (stN a2 (stN (a3 _) (stR (h' := z :: c2 :: g.set i (pu r')) ?_)))
          rw [← dm] at e2
          generalize ((e + 1 : Nat) : Int) = d at *
          simp [u3, u3', e2, kMany]
        · show r' + (_ :: ((innerD _).map (partsD e)).flatten).length = r
          rw [innerD_many]
          simp
          omega
        · have wx := wx p0
          show ((innerD _).map (weightD e)).sum ≤ pz
          rw [innerD_many, List.map_cons, List.map_nil, List.sum_cons, List.sum_nil]
          omega
      · have u3' : ¬ (u : Int) < 3 := by omega
        by_cases u5 : u < 5
        · have u5' : (u : Int) < 5 := by omega
          obtain ⟨hi, c2, e2, hi1, p2⟩ := draw_call (b := b + 18 + 20 * (r - 1)) (z := z) (c := c1) (g := G) (m := 5) (p1.mono (by omega)) (by omega) (by omega)
          obtain ⟨lo, c3, e3, lo1, p3⟩ := draw_call (b := b + 17 + 20 * (r - 1)) (z := z) (c := c2) (g := G) (m := (hi : Nat) + 1) (p2.mono (by omega)) (by omega) (by omega)
          obtain ⟨x, r', c4, e4, sx, rp, p4, wx⟩ := ok b (r - 1) i (pz / (if (hi : Int) > 1 then (hi : Int) else 1)) z c3 G hg1 (by omega) (by omega) (p3.mono (by omega))
          have GG : G.set i (pu r') = g.set i (pu r') := Gs _
          rw [GG] at e4
          have cd : cDiv pz (if (hi : Int) > 1 then (hi : Int) else 1) = true := by
            simp only [cDiv, Bool.and_eq_true, decide_eq_true_eq]
            split <;> omega
          refine ⟨.tup [.str kTim, x, .int (lo : Nat), .int (hi : Nat)], r', c4, callC_len rfl ?_ (by simp), .times sx (by omega) (by omega) (by omega), ?_, p4, fun p0 => ?_⟩
          · unfold B__law_shape
            rw [ap_fnM]
            simp only [List.map_cons, List.map_nil, List.length_cons, List.length_nil, List.cons_append, List.nil_append, Nat.reduceAdd, Nat.reduceSub, List.replicate]
            refine stN a1 (stN a2 (stN (a3 _) ?_))
            rw [← dm] at e4
            generalize ((e + 1 : Nat) : Int) = d at *
            refine stN (env2 := [some (.ref 1), some (.str t), some (.int d), some (.int pz), some (.ref (i + 1 + 1)), some (.int (u : Nat)), none, none, none, none, none]) (h2 := z :: c1 :: G) (by simp [u3, u3']) ?_
            refine stR (h' := z :: c4 :: g.set i (pu r')) ?_
            rw [ap_msIf, show mTb (mOp dLt (mVar 5) (mC (.int 5))) [some (.ref 1), some (.str t), some (.int d), some (.int pz), some (.ref (i + 1 + 1)), some (.int (u : Nat)), none, none, none, none, none] (z :: c1 :: G) = .ok true (z :: c1 :: G) by simp [u5, u5'], bindS_ok]
            show msCons _ _ _ _ = _
            refine stS (env2 := [some (.ref 1), some (.str t), some (.int d), some (.int pz), some (.ref (i + 1 + 1)), some (.int (u : Nat)), some (.int (hi : Nat)), none, none, none, none]) (h2 := z :: c2 :: G) (by simp [e2]) ?_
            refine stS (env2 := [some (.ref 1), some (.str t), some (.int d), some (.int pz), some (.ref (i + 1 + 1)), some (.int (u : Nat)), some (.int (hi : Nat)), some (.int (lo : Nat)), none, none, none]) (h2 := z :: c3 :: G) (by simp [e3]) ?_
            generalize hm : (if (hi : Int) > 1 then (hi : Int) else 1) = mx at *
            have bm : bMax2 [.int 1, .int (hi : Nat)] (z :: c3 :: G) = .ok (.int mx) (z :: c3 :: G) := by rw [bMax2_int, hm]
            simp [-bMax2_int, bm, cd, e4, kTim]
          · show r' + (_ :: ((innerD _).map (partsD e)).flatten).length = r
            rw [innerD_times]
            simp
            omega
          · show (hi : Int) * ((innerD _).map (weightD e)).sum ≤ pz
            rw [innerD_times, List.map_cons, List.map_nil, List.sum_cons, List.sum_nil, Int.add_zero]
            generalize weightD e x = W at *
            have : hi = 0 ∨ hi = 1 ∨ hi = 2 ∨ hi = 3 ∨ hi = 4 := by omega
            rcases this with rfl | rfl | rfl | rfl | rfl
            · omega
            · have wx : 0 ≤ pz / 1 → W ≤ pz / 1 := wx
              show 1 * W ≤ pz
              omega
            · have wx : 0 ≤ pz / 2 → W ≤ pz / 2 := wx
              show 2 * W ≤ pz
              omega
            · have wx : 0 ≤ pz / 3 → W ≤ pz / 3 := wx
              show 3 * W ≤ pz
              omega
            · have wx : 0 ≤ pz / 4 → W ≤ pz / 4 := wx
              show 4 * W ≤ pz
              omega
        · have u5' : ¬ (u : Int) < 5 := by omega
          obtain ⟨w, c2, e2, w1, p2⟩ := draw_call (b := b + 18 + 20 * (r - 1)) (z := z) (c := c1) (g := G ++ [.lst []]) (m := 8) (p1.mono (by omega)) (by omega) (by omega)
          obtain ⟨m, em, m1, m6⟩ : ∃ m : Nat, (∀ h, dIx (.tup [.int 1, .int 2, .int 2, .int 3, .int 3, .int 4, .int 5, .int 6]) (.int (w : Nat)) h = .ok (.int (m : Nat)) h) ∧ 1 ≤ m ∧ m ≤ 6 := by
            have : w = 0 ∨ w = 1 ∨ w = 2 ∨ w = 3 ∨ w = 4 ∨ w = 5 ∨ w = 6 ∨ w = 7 := by omega
            rcases this with rfl | rfl | rfl | rfl | rfl | rfl | rfl | rfl
            · exact ⟨1, fun h => dIx_nat (xs := [.int 1, .int 2, .int 2, .int 3, .int 3, .int 4, .int 5, .int 6]) rfl rfl, by omega, by omega⟩
            · exact ⟨2, fun h => dIx_nat (xs := [.int 1, .int 2, .int 2, .int 3, .int 3, .int 4, .int 5, .int 6]) rfl rfl, by omega, by omega⟩
            · exact ⟨2, fun h => dIx_nat (xs := [.int 1, .int 2, .int 2, .int 3, .int 3, .int 4, .int 5, .int 6]) rfl rfl, by omega, by omega⟩
            · exact ⟨3, fun h => dIx_nat (xs := [.int 1, .int 2, .int 2, .int 3, .int 3, .int 4, .int 5, .int 6]) rfl rfl, by omega, by omega⟩
            · exact ⟨3, fun h => dIx_nat (xs := [.int 1, .int 2, .int 2, .int 3, .int 3, .int 4, .int 5, .int 6]) rfl rfl, by omega, by omega⟩
            · exact ⟨4, fun h => dIx_nat (xs := [.int 1, .int 2, .int 2, .int 3, .int 3, .int 4, .int 5, .int 6]) rfl rfl, by omega, by omega⟩
            · exact ⟨5, fun h => dIx_nat (xs := [.int 1, .int 2, .int 2, .int 3, .int 3, .int 4, .int 5, .int 6]) rfl rfl, by omega, by omega⟩
            · exact ⟨6, fun h => dIx_nat (xs := [.int 1, .int 2, .int 2, .int 3, .int 3, .int 4, .int 5, .int 6]) rfl rfl, by omega, by omega⟩
          obtain ⟨pz', r', c3, ys, y9, y10, lp, h1, h2, h3, h4, h5, h6, h7⟩ := parts_loopW ok e0 (by omega) (i := i) (z := z) dm (intsFrom 0 m) b (r - 1) pz c2 G [] (some (.int (u : Nat))) none none none none hg1 (by omega) (by rw [ints_len]; simp; omega) (by simp) (p2.mono (by omega))
          rw [ints_len] at h2 h4
          simp only [List.length_nil, List.map_nil, List.flatten_nil] at h2 h4 h5
          have y1 : 1 ≤ ys.length := h4 (by omega) (by omega)
          have GG : G.set i (pu r') = g.set i (pu r') := Gs _
          rw [GG] at lp
          obtain ⟨kk, ekk, kc⟩ : ∃ kk : List Nat, (∀ h : IH, dIx (.tup [.str kRow, .str kEit]) (.int ((u : Int) / 7)) h = .ok (.str kk) h) ∧ (kk = kRow ∨ kk = kEit) := by
            by_cases q : u < 7
            · have : (u : Int) / 7 = 0 := by omega
              exact ⟨kRow, fun h => by rw [this]; exact dIx_seq (xs := [.str kRow, .str kEit]) rfl (by omega) rfl, .inl rfl⟩
            · have : (u : Int) / 7 = 1 := by omega
              exact ⟨kEit, fun h => by rw [this]; exact dIx_seq (xs := [.str kRow, .str kEit]) rfl (by omega) rfl, .inr rfl⟩
          have tx : bTupleX [.ref (G.length + 2)] (z :: c3 :: (g.set i (pu r') ++ [.lst ys])) = .ok (.tup ys) (z :: c3 :: (g.set i (pu r') ++ [.lst ys])) := bTupleX_ref (by
            show (g.set i (pu r') ++ [Cell.lst ys])[G.length]? = _
            rw [show G.length = (g.set i (pu r')).length by rw [List.length_set, gll], get_last])
          have cut : ∀ x : D, (∀ n, x.lo n = true) → B__law_shape (m__law_shape n) [.ref 1, .str t, .int ((e + 1 : Nat) : Int), .int pz, .ref (i + 1 + 1)] (z :: c :: g) = .ok x (z :: c3 :: (g.set i (pu r') ++ [.lst ys])) → callC 5 (B__law_shape (m__law_shape n)) [.ref 1, .str t, .int ((e + 1 : Nat) : Int), .int pz, .ref (i + 1 + 1)] (z :: c :: g) = .ok x (z :: c3 :: g.set i (pu r')) := fun x lo h => callC_cut (h' := z :: c3 :: g.set i (pu r')) (g := [.lst ys]) rfl h (by simp) (lo _) ⟨.inl rfl, .inr (h6.lo _), okB_set (by simp [pu])⟩
          refine ⟨.tup [.str kk, .tup ys], r', c3, cut _ (fun n => by
            simp
            exact loL_of fun y hy => (h1 y hy).lo _) ?_, ?_, ?_, h6, fun p0 => ?_⟩
          · unfold B__law_shape
            rw [ap_fnM]
            simp only [List.map_cons, List.map_nil, List.length_cons, List.length_nil, List.cons_append, List.nil_append, Nat.reduceAdd, Nat.reduceSub, List.replicate]
            refine stN a1 (stN a2 (stN (a3 _) ?_))
            generalize ((e + 1 : Nat) : Int) = d at *
            refine stN (env2 := [some (.ref 1), some (.str t), some (.int d), some (.int pz), some (.ref (i + 1 + 1)), some (.int (u : Nat)), none, none, none, none, none]) (h2 := z :: c1 :: G) (by simp [u3, u3']) ?_
            refine stN (env2 := [some (.ref 1), some (.str t), some (.int d), some (.int pz), some (.ref (i + 1 + 1)), some (.int (u : Nat)), none, none, none, none, none]) (h2 := z :: c1 :: G) (by simp [u5, u5']) ?_
            refine stN (env2 := [some (.ref 1), some (.str t), some (.int d), some (.int pz), some (.ref (i + 1 + 1)), some (.int (u : Nat)), none, none, some (.ref (G.length + 2)), none, none]) (h2 := z :: c1 :: (G ++ [.lst []])) (by simp [newL]) ?_
            refine stN (env2 := [some (.ref 1), some (.str t), some (.int d), some (.int pz'), some (.ref (i + 1 + 1)), some (.int (u : Nat)), none, none, some (.ref (G.length + 2)), y9, y10]) (h2 := z :: c3 :: (g.set i (pu r') ++ [.lst ys])) ((for_st (ds := intsFrom 0 m) (h2 := z :: c2 :: (G ++ [.lst []])) (iRange1_of (j := (m : Nat)) (k := m) (by simp [e2, em]) rfl (by omega))).trans lp) ?_
            rw [lRow, lEit]
            generalize g.set i (pu r') ++ [Cell.lst ys] = G2 at *
            generalize G.length + 2 = N at *
            have c7 : cDiv (u : Nat) 7 = true := by simp [cDiv]
            simp [c7, ekk, tx]
          · rcases kc with rfl | rfl
            · exact .row (by omega) h1
            · exact .eit (by omega) y1 h1
          · rcases kc with rfl | rfl
            · show r' + (_ :: ((innerD _).map (partsD e)).flatten).length = r
              rw [innerD_row, List.length_cons]
              omega
            · show r' + (_ :: ((innerD _).map (partsD e)).flatten).length = r
              rw [innerD_eit, List.length_cons]
              omega
          · obtain ⟨q1, q2⟩ := h7 p0
            rw [List.map_nil, List.sum_nil] at q2
            rcases kc with rfl | rfl
            · show ((innerD _).map (weightD e)).sum ≤ pz
              rw [innerD_row]
              omega
            · show ((innerD _).map (weightD e)).sum ≤ pz
              rw [innerD_eit]
              omega
end NR

set_option Elab.async false
set_option linter.all false
set_option maxRecDepth 100000
set_option maxHeartbeats 4000000
namespace NR
open PySem PySem.Spec PyProof.Rows L2
/-! ### courses that are drawn -/
def cB : Nat → Nat
  | 0 => 0
  | d + 1 => 2 + 6 * cB d
section
variable {z : Cell} {g : IH} {t : List Nat} {d n : Nat}
def CrsOk (d n : Nat) (s : Sh) : Prop := ∀ (a b : Nat) (z c : Cell) (g : IH), Pn (b + cB d) c → ∃ (c' : Cell) (g' : IH) (j : Nat) (R : List Nat), callC 3 (m__law_course n) [.ref 1, s.enc, .int (a : Nat)] (z :: c :: g) = .ok (.ref j) (z :: c' :: (g ++ g')) ∧ g.length + 2 ≤ j ∧ (z :: c' :: (g ++ g'))[j]? = some (.lst (R.map nD)) ∧ R.length ≤ cB d ∧ Pn b c'
theorem course_loop {s0 : Sh} {ch : Int} {X3 : Option D} (d6 : d ≤ 4) : ∀ (l : List Sh), (∀ y ∈ l, ShD d y) → (∀ y ∈ l, CrsOk d n y) → ∀ (i a b : Nat) (c : Cell) (acc : List Nat) (T : IH) (x6 x7 : Option D), acc.length + cB d * l.length ≤ 10000 → Pn (b + cB d * l.length) c →
    ∃ (a' : Nat) (c' : Cell) (R : List Nat) (T' : IH) (y6 y7 : Option D), forL (gSets [6, 7]) (b__law_course_1 (m__law_course n)) ((Sh.encs l).mapIdx fun j x => .tup [.int ((i + j : Nat) : Int), x]) [some (.ref 1), some s0.enc, some (.int (a : Nat)), X3, some (.int ch), some (.ref (g.length + 2)), x6, x7] (z :: c :: (g ++ .lst (acc.map nD) :: T)) =
      .nx [some (.ref 1), some s0.enc, some (.int (a' : Nat)), X3, some (.int ch), some (.ref (g.length + 2)), y6, y7] (z :: c' :: (g ++ .lst (R.map nD) :: T')) ∧ R.length ≤ acc.length + cB d * l.length ∧ Pn b c'
  | [], _, _, i, a, b, c, acc, T, x6, x7, _, hp => ⟨a, c, acc, T, x6, x7, rfl, by simp, hp⟩
  | s :: l, hd, hC, i, a, b, c, acc, T, x6, x7, al, hp => by
    rw [List.length_cons, Nat.mul_succ] at al hp
    have sh : ((Sh.encs l).mapIdx fun j x => D.tup [.int ((i + (j + 1) : Nat) : Int), x]) = (Sh.encs l).mapIdx fun j x => D.tup [.int ((i + 1 + j : Nat) : Int), x] := by
      congr 1
      funext j x
      rw [show i + (j + 1) = i + 1 + j by omega]
    rw [show Sh.encs (s :: l) = s.enc :: Sh.encs l from rfl, List.mapIdx_cons, sh, forL_cons (e1 := [some (.ref 1), some s0.enc, some (.int (a : Nat)), X3, some (.int ch), some (.ref (g.length + 2)), some (.int ((i + 0 : Nat) : Int)), some s.enc]) rfl]
    rw [show i + 0 = i from rfl]
    have e3 := fun h => lwt (hd s List.mem_cons_self) (by omega) h
    obtain ⟨B, eB⟩ : ∃ B : Bool, ∀ h : IH, (mAnd (mTb (mOp dGt (mCall 1 ((m__law_weight 24)) (mCons (mVar 7) (mNil))) (mC (.int 0)))) (mOr (mTb (mOp dLt (mVar 4) (mC (.int 0)))) (mTb (mOp (dEq false) (mVar 4) (mVar 6))))) [some (.ref 1), some s0.enc, some (.int (a : Nat)), X3, some (.int ch), some (.ref (g.length + 2)), some (.int (i : Nat)), some s.enc] h = .ok B h := by
      refine ⟨decide (0 < s.wt) && (decide (ch < 0) || decide (ch = (i : Nat))), fun h => ?_⟩
      have e3 := e3 h
      generalize s.enc = E at *
      generalize s0.enc = E0 at *
      by_cases w : 0 < s.wt
      · have w' : (0 : Int) < (s.wt : Nat) := by omega
        by_cases c0 : ch < 0
        · simp [e3, w, w', c0]
        · simp [e3, w, w', c0]
      · have w' : ¬ (0 : Int) < (s.wt : Nat) := by omega
        simp [e3, w, w']
    obtain ⟨a2, e2⟩ : ∃ a2 : Nat, ∀ h : IH, msIf (mTb (mOp (dEq true) (mOp dIx (mVar 1) (mC (.int 0))) (mC (.str kMany)))) (msAug 2 dIAdd (mCall 1 ((m__law_weight 24)) (mCons (mVar 7) (mNil)))) (msNil) [some (.ref 1), some s0.enc, some (.int (a : Nat)), X3, some (.int ch), some (.ref (g.length + 2)), some (.int (i : Nat)), some s.enc] h = .nx [some (.ref 1), some s0.enc, some (.int (a2 : Nat)), X3, some (.int ch), some (.ref (g.length + 2)), some (.int (i : Nat)), some s.enc] h := by
      by_cases k : s0.key = kMany
      · refine ⟨a, fun h => ?_⟩
        have h0 := enc0 s0 h
        generalize s.enc = E at *
        generalize s0.enc = E0 at *
        simp [h0, k]
      · refine ⟨a + s.wt, fun h => ?_⟩
        have h0 := enc0 s0 h
        have e3 := e3 h
        have ad2 : dIAdd (.int (a : Nat)) (.int (s.wt : Nat)) h = .ok (.int ((a + s.wt : Nat) : Int)) h := rfl
        generalize ((a + s.wt : Nat) : Int) = A2 at *
        generalize s.enc = E at *
        generalize s0.enc = E0 at *
        simp [h0, k, e3, ad2]
    have sp : ∀ e h2, msIf (mAnd (mTb (mOp dGt (mCall 1 ((m__law_weight 24)) (mCons (mVar 7) (mNil))) (mC (.int 0)))) (mOr (mTb (mOp dLt (mVar 4) (mC (.int 0)))) (mTb (mOp (dEq false) (mVar 4) (mVar 6))))) (msAug 5 dIAddL (mCall 3 (m__law_course n) (mCons (mVar 0) (mCons (mVar 7) (mCons (mVar 2) (mNil)))))) (msNil) [some (.ref 1), some s0.enc, some (.int (a : Nat)), X3, some (.int ch), some (.ref (g.length + 2)), some (.int (i : Nat)), some s.enc] e = .nx [some (.ref 1), some s0.enc, some (.int (a : Nat)), X3, some (.int ch), some (.ref (g.length + 2)), some (.int (i : Nat)), some s.enc] h2 → b__law_course_1 (m__law_course n) [some (.ref 1), some s0.enc, some (.int (a : Nat)), X3, some (.int ch), some (.ref (g.length + 2)), some (.int (i : Nat)), some s.enc] e = .nx [some (.ref 1), some s0.enc, some (.int (a2 : Nat)), X3, some (.int ch), some (.ref (g.length + 2)), some (.int (i : Nat)), some s.enc] h2 := fun e h2 h => by
      unfold b__law_course_1
      exact stS h (e2 h2)
    cases B with
    | false =>
      obtain ⟨a', c', R, T', y6, y7, ih, q1, q2⟩ := course_loop (s0 := s0) (ch := ch) (X3 := X3) d6 l (fun y hy => hd y (List.mem_cons_of_mem _ hy)) (fun y hy => hC y (List.mem_cons_of_mem _ hy)) (i + 1) a2 b c acc T (some (.int (i : Nat))) (some s.enc) (by omega) (hp.mono (by omega))
      refine ⟨a', c', R, T', y6, y7, ?_, by rw [List.length_cons, Nat.mul_succ]; omega, q2⟩
      rw [sp _ _ (by rw [ap_msIf, eB, bindS_ok, if_neg (by simp)]; rfl), on_nx]
      exact ih
    | true =>
      obtain ⟨c2, g2, j, R1, f1, f2, f3, f4, p2⟩ := hC s List.mem_cons_self a (b + cB d * l.length) z c (g ++ .lst (acc.map nD) :: T) (hp.mono (by omega))
      have hc : (z :: c2 :: (g ++ Cell.lst (acc.map nD) :: T ++ g2))[g.length + 2]? = some (.lst (acc.map nD)) := by
        show (g ++ Cell.lst (acc.map nD) :: T ++ g2)[g.length]? = _
        rw [List.append_assoc, get_app0]
        rfl
      have ad := dIAddL_new (h' := []) hc f3 (by rw [List.length_map, List.length_map]; omega)
      have st : (z :: c2 :: (g ++ Cell.lst (acc.map nD) :: T ++ g2)).set (g.length + 2) (.lst (acc.map nD ++ R1.map nD)) = z :: c2 :: (g ++ .lst ((acc ++ R1).map nD) :: (T ++ g2)) := by
        show z :: c2 :: (g ++ Cell.lst (acc.map nD) :: T ++ g2).set g.length _ = _
        rw [List.append_assoc, set_app0, List.map_append]
        rfl
      rw [st] at ad
      obtain ⟨a', c', R, T', y6, y7, ih, q1, q2⟩ := course_loop (s0 := s0) (ch := ch) (X3 := X3) d6 l (fun y hy => hd y (List.mem_cons_of_mem _ hy)) (fun y hy => hC y (List.mem_cons_of_mem _ hy)) (i + 1) a2 b c2 (acc ++ R1) (T ++ g2) (some (.int (i : Nat))) (some s.enc) (by rw [List.length_append]; omega) p2
      refine ⟨a', c', R, T', y6, y7, ?_, by rw [List.length_append] at q1; rw [List.length_cons, Nat.mul_succ]; omega, q2⟩
      rw [sp _ (z :: c2 :: (g ++ .lst ((acc ++ R1).map nD) :: (T ++ g2))) (by
        rw [ap_msIf, eB, bindS_ok, if_pos rfl]
        clear st
        generalize z :: c2 :: (g ++ Cell.lst ((acc ++ R1).map nD) :: (T ++ g2)) = H3 at *
        generalize z :: c2 :: (g ++ Cell.lst (acc.map nD) :: T ++ g2) = H2 at *
        generalize z :: c :: (g ++ Cell.lst (acc.map nD) :: T) = H1 at *
        generalize s.enc = E at *
        generalize s0.enc = E0 at *
        generalize g.length + 2 = N at *
        simp [f1, ad]), on_nx]
      exact ih
end
end NR

set_option Elab.async false
set_option linter.all false
set_option maxRecDepth 100000
set_option maxHeartbeats 4000000
namespace NR
open PySem PySem.Spec PyProof.Rows L2
section
variable {t : List Nat}
theorem course_all : ∀ (d n : Nat) (s : Sh), ShG t d s → d ≤ n → d ≤ 5 → CrsOk d n s
  | 0, _, _, hs, _, _ => by cases hs
  | d + 1, 0, _, _, l, _ => by omega
  | d + 1, n + 1, s, hs, dn, d5 => fun a b z c g hp => by
    have hd := hs.shd
    have hp : Pn (b + (2 + 6 * cB d)) c := hp
    have cb : cB (d + 1) = 2 + 6 * cB d := rfl
    have cb2 : cB d ≤ 518 := by
      have : d = 0 ∨ d = 1 ∨ d = 2 ∨ d = 3 ∨ d = 4 := by omega
      rcases this with rfl | rfl | rfl | rfl | rfl <;> decide
    have h0 := fun h => enc0 s h
    rw [show m__law_course (n + 1) = B__law_course (m__law_course n) from rfl]
    by_cases ko : s.key = kOne
    · refine ⟨c, [.lst [nD (a + 1)]], g.length + 2, [a + 1], callC_new rfl ?_ (by simp), by omega, by
        show (g ++ [Cell.lst [nD (a + 1)]])[g.length]? = _
        rw [get_last]
        rfl, by simp; omega, hp.mono (by omega)⟩
      have h0 := h0 (z :: c :: g)
      unfold B__law_course
      rw [lOne, ap_fnM]
      refine stR ?_
      generalize s.enc = E at *
      simp [h0, ko, newL, nD]
    have no : ∀ x, s ≠ .one x := fun x hx => ko (key_one.mpr ⟨x, hx⟩)
    have la := law_laid_call hd no (z :: c :: g)
    -- the parts that are walked
    obtain ⟨ps, c1, c2, P1, e1, e2, pg, p6, pE, p1⟩ : ∃ (ps : List Sh) (c1 c2 : Cell) (P1 : D), msIf (mTb (mOp (dEq false) (mOp dIx (mVar 1) (mC (.int 0))) (mC (.str kMany)))) (msSet 3 (mOp dMulZ (mTup (mCons (mOp dIx (mVar 1) (mC (.int 1))) (mNil))) (mCall 2 (m__law_draw) (mCons (mVar 0) (mCons (mC (.int 3)) (mNil)))))) (msNil) [some (.ref 1), some s.enc, some (.int (a : Nat)), some (.tup (Sh.encs s.pts)), none, none, none, none] (z :: c :: g) = .nx [some (.ref 1), some s.enc, some (.int (a : Nat)), some P1, none, none, none, none] (z :: c1 :: g) ∧
        msIf (mTb (mOp (dEq false) (mOp dIx (mVar 1) (mC (.int 0))) (mC (.str kTim)))) (msSet 3 (mOp dMulZ (mTup (mCons (mOp dIx (mVar 1) (mC (.int 1))) (mNil))) (mFz (mOp dAdd (mOp dIx (mVar 1) (mC (.int 2))) (mCall 2 (m__law_draw) (mCons (mVar 0) (mCons (mOp dAdd (mOp dSub (mOp dIx (mVar 1) (mC (.int 3))) (mOp dIx (mVar 1) (mC (.int 2)))) (mC (.int 1))) (mNil)))))))) (msNil) [some (.ref 1), some s.enc, some (.int (a : Nat)), some P1, none, none, none, none] (z :: c1 :: g) = .nx [some (.ref 1), some s.enc, some (.int (a : Nat)), some (.tup (Sh.encs ps)), none, none, none, none] (z :: c2 :: g) ∧ (∀ y ∈ ps, ShG t d y) ∧ ps.length ≤ 6 ∧ (s.isE = true → 1 ≤ ps.length) ∧ Pn (b + 1 + 6 * cB d) c2 := by
      have n1 : ¬ kRow = kMany := by decide
      have n2 : ¬ kRow = kTim := by decide
      have n3 : ¬ kEit = kMany := by decide
      have n4 : ¬ kEit = kTim := by decide
      have n5 : ¬ kMany = kTim := by decide
      have n6 : ¬ kTim = kMany := by decide
      cases hs with
      | one => exact absurd rfl (no _)
      | @row _ l n h =>
        have h1 := h0 (z :: c :: g)
        refine ⟨l, c, c, .tup (Sh.encs l), ?_, ?_, h, n, fun h => (by cases h), hp.mono (by omega)⟩
        · show msIf _ _ _ [_, _, _, some (.tup (Sh.encs l)), _, _, _, _] _ = _
          generalize Sh.enc (.row l) = E at *
          generalize Sh.encs l = EL at *
          simp [h1, Sh.key, n1]
        · generalize Sh.enc (.row l) = E at *
          generalize Sh.encs l = EL at *
          simp [h1, Sh.key, n2]
      | @eit _ l n n1' h =>
        have h1 := h0 (z :: c :: g)
        refine ⟨l, c, c, .tup (Sh.encs l), ?_, ?_, h, n, fun h => n1', hp.mono (by omega)⟩
        · show msIf _ _ _ [_, _, _, some (.tup (Sh.encs l)), _, _, _, _] _ = _
          generalize Sh.enc (.eit l) = E at *
          generalize Sh.encs l = EL at *
          simp [h1, Sh.key, n3]
        · generalize Sh.enc (.eit l) = E at *
          generalize Sh.encs l = EL at *
          simp [h1, Sh.key, n4]
      | @many _ x h =>
        obtain ⟨v, c2, e2, v1, p2⟩ := draw_call (b := b + 1 + 6 * cB d) (z := z) (c := c) (g := g) (m := 3) (hp.mono (by omega)) (by omega) (by omega)
        have h1 := h0 (z :: c :: g)
        have h2 := h0 (z :: c2 :: g)
        have i1 : ∀ h, dIx (Sh.enc (.many x)) (.int 1) h = .ok x.enc h := fun h => by
          show dIx (.tup [.str kMany, x.enc]) (.int 1) h = _
          exact ix1
        have i1 := i1 (z :: c :: g)
        have mz := dMulZ_one (v := x.enc) (k := v) (h := z :: c2 :: g) (by omega)
        rw [← encs_rep] at mz
        refine ⟨List.replicate v x, c2, c2, .tup (Sh.encs (List.replicate v x)), ?_, ?_, fun y hy => by rw [List.mem_replicate] at hy; rw [hy.2]; exact h, by rw [List.length_replicate]; omega, fun h => (by cases h), p2⟩
        · generalize Sh.encs (Sh.pts (.many x)) = EP at *
          generalize Sh.encs (List.replicate v x) = ER at *
          generalize Sh.enc (.many x) = E at *
          generalize x.enc = EX at *
          simp [h1, Sh.key, i1, e2, mz]
        · generalize Sh.encs (List.replicate v x) = ER at *
          generalize Sh.enc (.many x) = E at *
          simp [h2, Sh.key, n5]
      | @tim _ x lo hi h lh h4 =>
        obtain ⟨v, c2, e2, v1, p2⟩ := draw_call (b := b + 1 + 6 * cB d) (z := z) (c := c) (g := g) (m := ((hi : Nat) : Int) - (lo : Nat) + 1) (hp.mono (by omega)) (by omega) (by omega)
        have h1 := h0 (z :: c :: g)
        have en : Sh.enc (.tim x lo hi) = .tup [.str kTim, x.enc, .int (lo : Nat), .int (hi : Nat)] := rfl
        have i1 : dIx (Sh.enc (.tim x lo hi)) (.int 1) (z :: c :: g) = .ok x.enc (z :: c :: g) := by rw [en]; exact ix1
        have i2 : dIx (Sh.enc (.tim x lo hi)) (.int 2) (z :: c :: g) = .ok (.int (lo : Nat)) (z :: c :: g) := by rw [en]; exact ix2
        have i3 : dIx (Sh.enc (.tim x lo hi)) (.int 3) (z :: c :: g) = .ok (.int (hi : Nat)) (z :: c :: g) := by rw [en]; exact ix3
        have mz := dMulZ_one (v := x.enc) (k := lo + v) (h := z :: c2 :: g) (by omega)
        rw [← encs_rep] at mz
        have lv : ((lo : Nat) : Int) + (v : Nat) = ((lo + v : Nat) : Int) := by omega
        refine ⟨List.replicate (lo + v) x, c, c2, .tup (Sh.encs (Sh.pts (.tim x lo hi))), ?_, ?_, fun y hy => by rw [List.mem_replicate] at hy; rw [hy.2]; exact h, by rw [List.length_replicate]; omega, fun h => (by cases h), p2⟩
        · generalize Sh.encs (Sh.pts (.tim x lo hi)) = EP at *
          generalize Sh.enc (.tim x lo hi) = E at *
          simp [h1, Sh.key, n6]
        · generalize Sh.encs (Sh.pts (.tim x lo hi)) = EP at *
          generalize Sh.encs (List.replicate (lo + v) x) = ER at *
          clear en
          generalize Sh.enc (.tim x lo hi) = E at *
          generalize x.enc = EX at *
          generalize ((lo + v : Nat) : Int) = LV at *
          simp [h1, Sh.key, i1, i2, i3, e2, lv, mz]
    -- which of them
    obtain ⟨ch, c3, e3, p3⟩ : ∃ (ch : Int) (c3 : Cell), mIf (mTb (mOp (dEq false) (mOp dIx (mVar 1) (mC (.int 0))) (mC (.str kEit)))) (mCall 2 (m__law_draw) (mCons (mVar 0) (mCons (mB bLen (mCons (mVar 3) (mNil))) (mNil)))) (mNeg (mC (.int 1))) [some (.ref 1), some s.enc, some (.int (a : Nat)), some (.tup (Sh.encs ps)), none, none, none, none] (z :: c2 :: g) = .ok (.int ch) (z :: c3 :: g) ∧ Pn (b + 6 * cB d) c3 := by
      have h2 := h0 (z :: c2 :: g)
      have ke := key_eit (s := s)
      cases hE : s.isE with
      | false =>
        rw [hE, decide_eq_false_iff_not] at ke
        refine ⟨-1, c2, ?_, p1.mono (by omega)⟩
        generalize s.enc = E at *
        generalize Sh.encs ps = EP at *
        simp [h2, ke]
      | true =>
        rw [hE, decide_eq_true_eq] at ke
        have p1' := pE hE
        obtain ⟨v, c3, e3, v1, p3⟩ := draw_call (b := b + 6 * cB d) (z := z) (c := c2) (g := g) (m := (ps.length : Nat)) (p1.mono (by omega)) (by omega) (by omega)
        refine ⟨v, c3, ?_, p3⟩
        have bl : (Sh.encs ps).length = ps.length := by rw [encs_map, List.length_map]
        generalize s.enc = E at *
        generalize Sh.encs ps = EP at *
        simp [h2, ke, bl, e3]
    have ql : cB d * ps.length ≤ 6 * cB d := by rw [Nat.mul_comm 6]; exact Nat.mul_le_mul_left _ p6
    obtain ⟨a', c4, R, T', y6, y7, lp, q1, q2⟩ := course_loop (z := z) (g := g) (n := n) (s0 := s) (ch := ch) (X3 := some (.tup (Sh.encs ps))) (by omega : d ≤ 4) ps (fun y hy => (pg y hy).shd) (fun y hy => course_all d n y (pg y hy) (by omega) (by omega)) 0 a b c3 [] [] none none (by simp; omega) (p3.mono (by omega))
    have e' : (fun (j : Nat) (x : D) => D.tup [.int ((0 + j : Nat) : Int), x]) = fun j x => D.tup [.int (j : Nat), x] := by
      funext j x
      rw [Nat.zero_add]
    rw [e'] at lp
    refine ⟨c4, .lst (R.map nD) :: T', g.length + 2, R, callC_new rfl ?_ (by simp), by omega, by
      show (g ++ Cell.lst (R.map nD) :: T')[g.length]? = _
      rw [get_app0]
      rfl, by simp at q1; omega, q2⟩
    have h1 := h0 (z :: c :: g)
    unfold B__law_course
    rw [lOne, lEit, show ([109, 97, 110, 121] : List Nat) = kMany from rfl, show ([116, 105, 109, 101, 115] : List Nat) = kTim from rfl, ap_fnM]
    refine stN (env2 := [some (.ref 1), some s.enc, some (.int (a : Nat)), none, none, none, none, none]) (h2 := z :: c :: g) (by
      generalize s.enc = E at *
      simp [h1, ko]) ?_
    refine stN (env2 := [some (.ref 1), some s.enc, some (.int (a : Nat)), some (.tup (Sh.encs s.pts)), none, none, none, none]) (h2 := z :: c :: g) (by
      generalize s.enc = E at *
      generalize Sh.encs s.pts = EP at *
      simp [la]) ?_
    refine stN e1 (stN e2 ?_)
    refine stN (env2 := [some (.ref 1), some s.enc, some (.int (a : Nat)), some (.tup (Sh.encs ps)), some (.int ch), none, none, none]) (h2 := z :: c3 :: g) (by
      rw [ap_msSet, e3]
      rfl) ?_
    refine stN (env2 := [some (.ref 1), some s.enc, some (.int (a : Nat)), some (.tup (Sh.encs ps)), some (.int ch), some (.ref (g.length + 2)), none, none]) (h2 := z :: c3 :: (g ++ [.lst []])) (by
      generalize s.enc = E at *
      generalize Sh.encs ps = EP at *
      simp [newL]) ?_
    refine stN ((for_st (ds := (Sh.encs ps).mapIdx fun j x => D.tup [.int (j : Nat), x]) (h2 := z :: c3 :: (g ++ [.lst []])) (by
      unfold iEnum
      generalize s.enc = E at *
      generalize Sh.encs ps = EP at *
      simp [stOf])).trans lp) ?_
    simp
end
end NR

set_option Elab.async false
set_option linter.all false
set_option maxRecDepth 100000
set_option maxHeartbeats 4000000
namespace NR
open PySem PySem.Spec PyProof.Rows L2
/-! ### along a spread -/
section
variable {s : Sh} {h : IH}
def along (s : Sh) : Nat → List Nat → Bool
  | p, [] => decide (p ∈ spL s)
  | p, q :: R => decide (q ∈ spR s p) && along s q R
theorem mem_spR0 {q : Nat} : q ∈ spR s 0 ↔ s.bg q 0 = true := by
  unfold spR
  rw [List.mem_filter, List.mem_range]
  exact ⟨fun h => by simpa using h.2, fun h => ⟨by have := Sh.bg_in h; omega, by simpa using h⟩⟩
theorem mem_spR {p q : Nat} (p0 : p ≠ 0) : q ∈ spR s p ↔ s.fo p q 0 = true := by
  unfold spR
  rw [List.mem_filter, List.mem_range, if_neg p0]
  exact ⟨fun h => h.2, fun h => ⟨by have := Sh.fo_in h; omega, h⟩⟩
theorem mem_spL0 : 0 ∈ spL s ↔ s.em = true := by
  unfold spL
  rw [List.mem_filter, List.mem_range]
  have : s.en 0 0 = false := bfalse Sh.en_in (by omega)
  rw [this]
  simp
theorem mem_spL {p : Nat} (p0 : p ≠ 0) : p ∈ spL s ↔ s.en p 0 = true := by
  unfold spL
  rw [List.mem_filter, List.mem_range]
  constructor
  · intro h
    simpa [p0] using h.2
  · intro h
    have := Sh.en_in h
    exact ⟨by omega, by simp [h]⟩
theorem spR_le {p q : Nat} (h : q ∈ spR s p) : q ≤ s.wt := by
  unfold spR at h
  rw [List.mem_filter, List.mem_range] at h
  omega
theorem spR_pos {p q : Nat} (h : q ∈ spR s p) : q ≠ 0 := by
  by_cases p0 : p = 0
  · subst p0
    have := Sh.bg_in (mem_spR0.mp h)
    omega
  · have := Sh.fo_in ((mem_spR p0).mp h)
    omega
theorem along_chn : ∀ {R : List Nat} {p : Nat}, p ≠ 0 → along s p R = chn (fun p q => s.fo p q 0) (fun p => s.en p 0) p R
  | [], p, h => by
    show decide (p ∈ spL s) = s.en p 0
    rw [Bool.eq_iff_iff, decide_eq_true_eq, mem_spL h]
  | q :: R, p, h => by
    show (decide (q ∈ spR s p) && along s q R) = (s.fo p q 0 && chn _ _ q R)
    have e : decide (q ∈ spR s p) = s.fo p q 0 := by rw [Bool.eq_iff_iff, decide_eq_true_eq, mem_spR h]
    rw [e]
    cases f : s.fo p q 0 with
    | false => rfl
    | true => rw [along_chn (by have := Sh.fo_in f; omega)]
theorem along_lc {R : List Nat} : along s 0 R = s.lc 0 R := by
  cases R with
  | nil =>
    show decide (0 ∈ spL s) = s.em
    rw [Bool.eq_iff_iff, decide_eq_true_eq, mem_spL0]
  | cons q R =>
    show (decide (q ∈ spR s 0) && along s q R) = (s.bg q 0 && chn _ _ q R)
    have e : decide (q ∈ spR s 0) = s.bg q 0 := by rw [Bool.eq_iff_iff, decide_eq_true_eq, mem_spR0]
    rw [e]
    cases f : s.bg q 0 with
    | false => rfl
    | true => rw [along_chn (by have := Sh.bg_in f; omega)]
theorem sp_row {p : Nat} (h : IH) (l : p ≤ s.wt) : dIx (.tup ((List.range (s.wt + 1)).map fun i => D.tup ((spR s i).map nD))) (.int (p : Nat)) h = .ok (.tup ((spR s p).map nD)) h := dIx_seq (xs := (List.range (s.wt + 1)).map fun i => D.tup ((spR s i).map nD)) rfl (by omega) (by
  rw [Int.toNat_natCast, List.getElem?_map, List.getElem?_range (by omega)]
  rfl)
theorem along_loop {X1 : Option D} : ∀ (R : List Nat) (p : Nat) (x3 : Option D), p ≤ s.wt → ((forL (gSet 3) b__law_along_1 (R.map nD) [some (spD s), X1, some (nD p), x3] h).then (msRet (mOp (dIn false) (mVar 2) (mOp dIx (mVar 0) (mC (.int 2)))))).fin = .ok (.bl (along s p R)) h
  | [], p, x3, hp => by
    have t2 : dIx (spD s) (.int 2) h = .ok (.tup ((spL s).map nD)) h := ix2
    have inn : dIn false (nD p) (.tup ((spL s).map nD)) h = .ok (.bl (decide (p ∈ spL s))) h := dIn_nats rfl
    show ((forL _ _ [] _ h).then _).fin = .ok (.bl (decide (p ∈ spL s))) h
    rw [forL_nil, then_nx]
    generalize spD s = S at *
    generalize (spL s).map nD = LL at *
    simp [t2, inn]
  | q :: R, p, x3, hp => by
    have t1' : dIx (spD s) (.int 1) h = .ok (.tup ((List.range (s.wt + 1)).map fun i => D.tup ((spR s i).map nD))) h := ix1
    have rw_ := sp_row (s := s) h hp
    have rw_ : dIx (.tup ((List.range (s.wt + 1)).map fun i => D.tup ((spR s i).map nD))) (nD p) h = .ok (.tup ((spR s p).map nD)) h := rw_
    have inn : dIn true (nD q) (.tup ((spR s p).map nD)) h = .ok (.bl (!decide (q ∈ spR s p))) h := dIn_nats rfl
    have ih := along_loop (X1 := X1) R q (some (nD q))
    rw [List.map_cons, forL_cons (e1 := [some (spD s), X1, some (nD p), some (nD q)]) rfl]
    have ev : b__law_along_1 [some (spD s), X1, some (nD p), some (nD q)] h = if q ∈ spR s p then .nx [some (spD s), X1, some (nD q), some (nD q)] h else .rt (.bl false) h := by
      unfold b__law_along_1
      generalize spD s = S at *
      generalize (List.range (s.wt + 1)).map (fun i => D.tup ((spR s i).map nD)) = RR at *
      by_cases m : q ∈ spR s p
      · rw [if_pos m]
        generalize (spR s p).map nD = RP at *
        simp [t1', rw_, inn, m]
      · rw [if_neg m]
        generalize (spR s p).map nD = RP at *
        simp [t1', rw_, inn, m]
    rw [ev]
    rw [show along s p (q :: R) = (decide (q ∈ spR s p) && along s q R) from rfl]
    by_cases m : q ∈ spR s p
    · rw [if_pos m, on_nx, ih (spR_le m), decide_eq_true m, Bool.true_and]
    · rw [if_neg m, on_rt, then_rt, decide_eq_false m]
      rfl
theorem along_call {R : List Nat} : callC 2 m__law_along [spD s, .fl (R.map nD)] h = .ok (.bl (s.lc 0 R)) h := by
  refine callC_same rfl ?_
  have lp := along_loop (s := s) (h := h) (X1 := some (.fl (R.map nD))) R 0 none (by omega)
  rw [along_lc] at lp
  unfold m__law_along
  rw [ap_fnM]
  refine stN (env2 := [some (spD s), some (.fl (R.map nD)), some (nD 0), none]) (h2 := h) (by
    generalize spD s = S at *
    generalize R.map nD = RR at *
    simp [nD]) ?_
  rw [ap_msCons, for_st (ds := R.map nD) (h2 := h) (by
    generalize spD s = S at *
    generalize R.map nD = RR at *
    simp)]
  exact lp
end
end NR

set_option Elab.async false
set_option linter.all false
set_option maxRecDepth 100000
set_option maxHeartbeats 4000000
namespace NR
open PySem PySem.Spec PyProof.Rows L2
/-! ### rows gone along a spread, rows that are bent -/
section
variable {z c : Cell} {g : IH} {b : Nat} {s : Sh}
theorem ne_nilT {l : List Nat} {h : IH} : dEq true (.tup (l.map nD)) (.tup []) h = .ok (.bl (!l.isEmpty)) h := by
  have p1 : D.pl 50 (.tup (l.map nD)) = true := by
    rw [show (50 : Nat) = 49 + 1 from rfl, pl_tup]
    refine pl_all fun d hd => ?_
    obtain ⟨x, _, rfl⟩ := List.mem_map.mp hd
    rfl
  rw [dEq_pl p1 rfl]
  cases l with
  | nil => simp [D.nm, D.nmL]
  | cons x l => simp [D.nm, D.nmL]
theorem gone_call (w10 : s.wt ≤ 10) (hp : Pn (b + 30) c) : ∃ (R : List Nat) (c' : Cell), callC 2 m__law_gone [.ref 1, spD s] (z :: c :: g) = .ok (.fl (R.map nD)) (z :: c' :: g) ∧ R.length ≤ 10 ∧ Pn b c' := by
  have w := msWhile_inv (c := t__law_gone_1) (s := b__law_gone_2)
    (fun m env H => ∃ (R : List Nat) (p : Nat) (c : Cell), env = [some (.ref 1), some (spD s), some (.ref (g.length + 2)), some (nD p)] ∧ H = z :: c :: (g ++ [.lst (R.map nD)]) ∧ R.length + m = 10 ∧ p ≤ s.wt ∧ Pn (b + 2 * m) c)
    (fun r => ∃ (R : List Nat) (p : Nat) (c : Cell), r = .nx [some (.ref 1), some (spD s), some (.ref (g.length + 2)), some (nD p)] (z :: c :: (g ++ [.lst (R.map nD)])) ∧ R.length ≤ 10 ∧ Pn b c) (by
      rintro m env H ⟨R, p, c, rfl, rfl, rm, hp, pc⟩
      have hr : ∀ c : Cell, (z :: c :: (g ++ [Cell.lst (R.map nD)]))[g.length + 2]? = some (.lst (R.map nD)) := fun c => by
        show (g ++ [Cell.lst (R.map nD)])[g.length]? = _
        exact get_last
      have bl : bLen [.ref (g.length + 2)] (z :: c :: (g ++ [.lst (R.map nD)])) = .ok (.int (R.length : Nat)) (z :: c :: (g ++ [.lst (R.map nD)])) := by
        have := bLen_ref (hr c)
        rw [List.length_map] at this
        exact this
      have t1' : ∀ h, dIx (spD s) (.int 1) h = .ok (.tup ((List.range (s.wt + 1)).map fun i => D.tup ((spR s i).map nD))) h := fun h => ix1
      have t2 : ∀ h, dIx (spD s) (.int 2) h = .ok (.tup ((spL s).map nD)) h := fun h => ix2
      have rw_ := fun h => sp_row (s := s) h hp
      have rw_ : ∀ h, dIx (.tup ((List.range (s.wt + 1)).map fun i => D.tup ((spR s i).map nD))) (nD p) h = .ok (.tup ((spR s p).map nD)) h := rw_
      have nn : ∀ h, dEq true (.tup ((spR s p).map nD)) (.tup []) h = .ok (.bl (!(spR s p).isEmpty)) h := fun h => ne_nilT
      have inn : ∀ h, dIn true (nD p) (.tup ((spL s).map nD)) h = .ok (.bl (!decide (p ∈ spL s))) h := fun h => dIn_nats rfl
      by_cases lt : R.length < 10
      · obtain ⟨B, c2, e2, p2, hB⟩ : ∃ (B : Bool) (c2 : Cell), t__law_gone_1 [some (.ref 1), some (spD s), some (.ref (g.length + 2)), some (nD p)] (z :: c :: (g ++ [.lst (R.map nD)])) = .ok B (z :: c2 :: (g ++ [.lst (R.map nD)])) ∧ Pn (b + 2 * (m - 1) + 1) c2 ∧ (B = true → spR s p ≠ []) := by
          obtain ⟨u, c2, e2, u1, p2⟩ := draw_call (b := b + 2 * (m - 1) + 1) (z := z) (c := c) (g := g ++ [.lst (R.map nD)]) (m := 3) (pc.mono (by omega)) (by omega) (by omega)
          have t1' := t1' (z :: c :: (g ++ [.lst (R.map nD)]))
          have t2 := t2 (z :: c :: (g ++ [.lst (R.map nD)]))
          have rw_ := rw_ (z :: c :: (g ++ [.lst (R.map nD)]))
          have nn := nn (z :: c :: (g ++ [.lst (R.map nD)]))
          have inn := inn (z :: c :: (g ++ [.lst (R.map nD)]))
          have lt' : ((R.length : Nat) : Int) < 10 := by omega
          by_cases em : spR s p = []
          · refine ⟨false, c, ?_, pc.mono (by omega), fun h => (by cases h)⟩
            rw [em] at nn rw_
            have nn : dEq true (.tup []) (.tup []) (z :: c :: (g ++ [.lst (R.map nD)])) = .ok (.bl false) (z :: c :: (g ++ [.lst (R.map nD)])) := nn
            have rw_ : dIx (.tup ((List.range (s.wt + 1)).map fun i => D.tup ((spR s i).map nD))) (nD p) (z :: c :: (g ++ [.lst (R.map nD)])) = .ok (.tup []) (z :: c :: (g ++ [.lst (R.map nD)])) := rw_
            unfold t__law_gone_1
            clear hr
            generalize z :: c :: (g ++ [Cell.lst (R.map nD)]) = H at *
            generalize spD s = S at *
            generalize (List.range (s.wt + 1)).map (fun i => D.tup ((spR s i).map nD)) = RR at *
            simp [bl, lt, lt', t1', rw_, nn]
          · have ne : (spR s p).isEmpty = false := by
              cases h : spR s p with
              | nil => exact absurd h em
              | cons => rfl
            rw [ne] at nn
            by_cases ml : p ∈ spL s
            · refine ⟨decide (0 < u), c2, ?_, p2, fun _ => em⟩
              unfold t__law_gone_1
              clear hr
              generalize z :: c :: (g ++ [Cell.lst (R.map nD)]) = H at *
              generalize z :: c2 :: (g ++ [Cell.lst (R.map nD)]) = H2 at *
              generalize spD s = S at *
              generalize (List.range (s.wt + 1)).map (fun i => D.tup ((spR s i).map nD)) = RR at *
              generalize (spR s p).map nD = RP at *
              generalize (spL s).map nD = LL at *
              simp [bl, lt, lt', t1', rw_, nn, t2, inn, ml, e2]
            · refine ⟨true, c, ?_, pc.mono (by omega), fun _ => em⟩
              unfold t__law_gone_1
              clear hr
              generalize z :: c :: (g ++ [Cell.lst (R.map nD)]) = H at *
              generalize z :: c2 :: (g ++ [Cell.lst (R.map nD)]) = H2 at *
              generalize spD s = S at *
              generalize (List.range (s.wt + 1)).map (fun i => D.tup ((spR s i).map nD)) = RR at *
              generalize (spR s p).map nD = RP at *
              generalize (spL s).map nD = LL at *
              simp [bl, lt, lt', t1', rw_, nn, t2, inn, ml]
        rw [e2]
        cases B with
        | false => exact ⟨R, p, c2, rfl, by omega, p2.mono (by omega)⟩
        | true =>
          have em := hB rfl
          have rp : 0 < (spR s p).length := List.length_pos_iff.mpr em
          have rl : (spR s p).length ≤ s.wt + 1 := by
            unfold spR
            exact Nat.le_trans (List.length_filter_le _ _) (by simp)
          obtain ⟨u, c3, e3, u1, p3⟩ := draw_call (b := b + 2 * (m - 1)) (z := z) (c := c2) (g := g ++ [.lst (R.map nD)]) (m := ((spR s p).length : Nat)) (p2.mono (by omega)) (by omega) (by omega)
          have hq : (spR s p)[u]? = some ((spR s p)[u]'(by omega)) := List.getElem?_eq_getElem (by omega)
          generalize (spR s p)[u]'(by omega) = q at hq
          have qm := List.mem_of_getElem? hq
          have ixq : ∀ h, dIx (.tup ((spR s p).map nD)) (.int (u : Nat)) h = .ok (nD q) h := fun h => dIx_seq (xs := (spR s p).map nD) rfl (by omega) (by
            rw [Int.toNat_natCast, List.getElem?_map, hq]
            rfl)
          have ty := tyD_ref (hr c3)
          have ap := append_at (y := nD q) (hr c3) (by rw [List.length_map]; omega)
          have st : (z :: c3 :: (g ++ [Cell.lst (R.map nD)])).set (g.length + 2) (.lst (R.map nD ++ [nD q])) = z :: c3 :: (g ++ [.lst ((R ++ [q]).map nD)]) := by
            show z :: c3 :: (g ++ [Cell.lst (R.map nD)]).set g.length _ = _
            rw [set_last, List.map_append]
            rfl
          rw [st] at ap
          have ev : b__law_gone_2 [some (.ref 1), some (spD s), some (.ref (g.length + 2)), some (nD p)] (z :: c2 :: (g ++ [.lst (R.map nD)])) = .nx [some (.ref 1), some (spD s), some (.ref (g.length + 2)), some (nD q)] (z :: c3 :: (g ++ [.lst ((R ++ [q]).map nD)])) := by
            unfold b__law_gone_2
            have ll : ((spR s p).map nD).length = (spR s p).length := List.length_map ..
            refine stS (env2 := [some (.ref 1), some (spD s), some (.ref (g.length + 2)), some (nD q)]) (h2 := z :: c3 :: (g ++ [.lst (R.map nD)])) ?_ ?_
            · clear hr ap ty st
              generalize z :: c2 :: (g ++ [Cell.lst (R.map nD)]) = H at *
              generalize z :: c3 :: (g ++ [Cell.lst (R.map nD)]) = H2 at *
              generalize spD s = S at *
              generalize (List.range (s.wt + 1)).map (fun i => D.tup ((spR s i).map nD)) = RR at *
              generalize (spR s p).map nD = RP at *
              simp [t1', rw_, ll, e3, ixq]
            · clear hr st
              generalize z :: c3 :: (g ++ [Cell.lst (R.map nD)]) = H at *
              generalize z :: c3 :: (g ++ [Cell.lst ((R ++ [q]).map nD)]) = H2 at *
              generalize spD s = S at *
              generalize g.length + 2 = N at *
              simp [ty, ap]
          dsimp only
          rw [ev]
          refine ⟨m - 1, by omega, R ++ [q], q, c3, rfl, rfl, by rw [List.length_append, List.length_singleton]; omega, spR_le qm, p3⟩
      · have e2 : t__law_gone_1 [some (.ref 1), some (spD s), some (.ref (g.length + 2)), some (nD p)] (z :: c :: (g ++ [.lst (R.map nD)])) = .ok false (z :: c :: (g ++ [.lst (R.map nD)])) := by
          have lt' : ¬ ((R.length : Nat) : Int) < 10 := by omega
          unfold t__law_gone_1
          clear hr
          generalize z :: c :: (g ++ [Cell.lst (R.map nD)]) = H at *
          generalize spD s = S at *
          simp [bl, lt, lt']
        rw [e2]
        exact ⟨R, p, c, rfl, by omega, pc.mono (by omega)⟩)
    10 [some (.ref 1), some (spD s), some (.ref (g.length + 2)), some (nD 0)] (z :: c :: (g ++ [.lst []])) ⟨[], 0, c, rfl, rfl, rfl, by omega, hp.mono (by omega)⟩
  obtain ⟨R, p, c', lp, r1, p1⟩ := w
  refine ⟨R, c', callC_pen (g' := [.frz (R.map nD)]) (c' := c') rfl ?_ (fun k _ => by
    show D.loL k (R.map nD) = true
    refine loL_of fun x hx => ?_
    obtain ⟨y, _, rfl⟩ := List.mem_map.mp hx
    rfl) (fun k _ => p1.lo k), r1, p1⟩
  unfold m__law_gone
  rw [ap_fnM]
  refine stN (env2 := [some (.ref 1), some (spD s), some (.ref (g.length + 2)), none]) (h2 := z :: c :: (g ++ [.lst []])) (by
    generalize spD s = S at *
    simp [newL]) ?_
  refine stN (env2 := [some (.ref 1), some (spD s), some (.ref (g.length + 2)), some (nD 0)]) (h2 := z :: c :: (g ++ [.lst []])) (by
    generalize spD s = S at *
    simp [nD]) ?_
  refine stN lp ?_
  rw [ap_msFz (i := 2) (n := g.length + 2) (xs := R.map nD) rfl (by
    show (g ++ [Cell.lst (R.map nD)])[g.length]? = _
    exact get_last)]
  have st : (z :: c' :: (g ++ [Cell.lst (R.map nD)])).set (g.length + 2) (.frz (R.map nD)) = z :: c' :: (g ++ [.frz (R.map nD)]) := by
    show z :: c' :: (g ++ [Cell.lst (R.map nD)]).set g.length _ = _
    rw [set_last]
  rw [st]
  generalize z :: c' :: (g ++ [Cell.frz (R.map nD)]) = H at *
  generalize R.map nD = RR at *
  simp
end
end NR

set_option Elab.async false
set_option linter.all false
set_option maxRecDepth 100000
set_option maxHeartbeats 4000000
namespace NR
open PySem PySem.Spec PyProof.Rows L2
section
variable {z c : Cell} {g : IH} {b : Nat}
theorem lo_nats {k : Nat} {l : List Nat} : D.loL k (l.map nD) = true := loL_of fun x hx => by
  obtain ⟨y, _, rfl⟩ := List.mem_map.mp hx
  rfl
theorem bent_call {R : List Nat} {w : Nat} (r10 : R.length ≤ 10) (w1 : 1 ≤ w) (w10 : w ≤ 10) (hp : Pn (b + 3) c) : ∃ (R' : List Nat) (c' : Cell), callC 3 m__law_bent [.ref 1, .fl (R.map nD), .int (w : Nat)] (z :: c :: g) = .ok (.fl (R'.map nD)) (z :: c' :: g) ∧ R'.length ≤ 11 ∧ Pn b c' := by
  obtain ⟨u, c1, e1, u1, p1⟩ := draw_call (b := b + 2) (z := z) (c := c) (g := g) (m := (R.length : Nat) + 1) (hp.mono (by omega)) (by omega) (by omega)
  obtain ⟨v, c2, e2, v1, p2⟩ := draw_call (b := b + 1) (z := z) (c := c1) (g := g) (m := 4) (p1.mono (by omega)) (by omega) (by omega)
  obtain ⟨x, c3, e3, x1, p3⟩ := draw_call (b := b) (z := z) (c := c2) (g := g) (m := (w : Nat)) (p2.mono (by omega)) (by omega) (by omega)
  have rl : (R.map nD).length = R.length := List.length_map ..
  have fl : ∀ (c : Cell) (xs ys : List Nat), xs.length + ys.length ≤ 100 → fzR (z :: c :: g) (dAdd (.fl (xs.map nD)) (.fl (ys.map nD)) (z :: c :: g)) = .ok (.fl ((xs ++ ys).map nD)) (z :: c :: g) := fun c xs ys l => by
    rw [dAdd_fl, if_pos (by rw [List.length_map, List.length_map]; omega), fz_newL, ← List.map_append]
    exact fzD_same lo_nats
  have cut : ∀ (c : Cell) (lo hi : Option Int) (ys : List Nat), cutD (R.map nD) lo hi = ys.map nD → fzR (z :: c :: g) (sliceD (.fl (R.map nD)) lo hi (z :: c :: g)) = .ok (.fl (ys.map nD)) (z :: c :: g) := fun c lo hi ys e => by
    rw [sliceD_fl, e, fz_newL]
    exact fzD_same lo_nats
  have to : ∀ c, fzR (z :: c :: g) (sliceD (.fl (R.map nD)) none (some (u : Nat)) (z :: c :: g)) = .ok (.fl ((R.take u).map nD)) (z :: c :: g) := fun c => cut c _ _ _ (by rw [cutD_to (by omega), Int.toNat_natCast, List.map_take])
  have fr : ∀ (c : Cell) (i : Int) (k : Nat), i = (k : Nat) → fzR (z :: c :: g) (sliceD (.fl (R.map nD)) (some i) none (z :: c :: g)) = .ok (.fl ((R.drop k).map nD)) (z :: c :: g) := fun c i k e => cut c _ _ _ (by rw [cutD_from (by omega), e, Int.toNat_natCast, List.map_drop])
  have tl : (R.take u).length ≤ u := by rw [List.length_take]; omega
  by_cases v0 : v = 0
  · refine ⟨R.take u ++ R.drop (u + 1), c2, callC_pen0 rfl ?_, by rw [List.length_append, List.length_take, List.length_drop]; omega, p2.mono (by omega)⟩
    subst v0
    have e2 : callC 2 m__law_draw [.ref 1, .int 4] (z :: c1 :: g) = .ok (.int 0) (z :: c2 :: g) := e2
    have a1 := to c2
    have a2 := fr c2 ((u : Nat) + 1) (u + 1) (by omega)
    have a3 := fl c2 (R.take u) (R.drop (u + 1)) (by rw [List.length_take, List.length_drop]; omega)
    unfold m__law_bent
    rw [ap_fnM]
    generalize (R.take u ++ R.drop (u + 1)).map nD = R3 at *
    generalize (R.take u).map nD = R1 at *
    generalize (R.drop (u + 1)).map nD = R2 at *
    generalize R.map nD = RR at *
    refine stN (env2 := [some (.ref 1), some (.fl RR), some (.int (w : Nat)), some (.int (u : Nat)), none]) (h2 := z :: c1 :: g) (by simp [rl, e1]) ?_
    refine stN (env2 := [some (.ref 1), some (.fl RR), some (.int (w : Nat)), some (.int (u : Nat)), some (.int 0)]) (h2 := z :: c2 :: g) (by simp [e2]) ?_
    refine stR ?_
    simp [a1, a2, a3]
  have v0' : ¬ (v : Int) = 0 := by omega
  by_cases v1' : v = 1
  · refine ⟨R.take u ++ R.drop (u - 1), c2, callC_pen0 rfl ?_, by rw [List.length_append, List.length_take, List.length_drop]; omega, p2.mono (by omega)⟩
    subst v1'
    have e2 : callC 2 m__law_draw [.ref 1, .int 4] (z :: c1 :: g) = .ok (.int 1) (z :: c2 :: g) := e2
    have a1 := to c2
    have a2 := fr c2 (if (u : Int) - 1 > 0 then (u : Int) - 1 else 0) (u - 1) (by split <;> omega)
    have a3 := fl c2 (R.take u) (R.drop (u - 1)) (by rw [List.length_take, List.length_drop]; omega)
    have bm : bMax2 [.int 0, .int ((u : Nat) - 1)] (z :: c2 :: g) = .ok (.int (if (u : Int) - 1 > 0 then (u : Int) - 1 else 0)) (z :: c2 :: g) := bMax2_int
    generalize (if (u : Int) - 1 > 0 then (u : Int) - 1 else 0) = mx at *
    unfold m__law_bent
    rw [ap_fnM]
    generalize (R.take u ++ R.drop (u - 1)).map nD = R3 at *
    generalize (R.take u).map nD = R1 at *
    generalize (R.drop (u - 1)).map nD = R2 at *
    generalize R.map nD = RR at *
    refine stN (env2 := [some (.ref 1), some (.fl RR), some (.int (w : Nat)), some (.int (u : Nat)), none]) (h2 := z :: c1 :: g) (by simp [rl, e1]) ?_
    refine stN (env2 := [some (.ref 1), some (.fl RR), some (.int (w : Nat)), some (.int (u : Nat)), some (.int 1)]) (h2 := z :: c2 :: g) (by simp [e2]) ?_
    refine stN (env2 := [some (.ref 1), some (.fl RR), some (.int (w : Nat)), some (.int (u : Nat)), some (.int 1)]) (h2 := z :: c2 :: g) (by simp) ?_
    refine stR ?_
    simp [-bMax2_int, bm, a1, a2, a3]
  · have v1'' : ¬ (v : Int) = 1 := by omega
    refine ⟨(R.take u ++ [1 + x]) ++ R.drop (u + v / 3), c3, callC_pen0 rfl ?_, by rw [List.length_append, List.length_append, List.length_take, List.length_drop, List.length_singleton]; omega, p3⟩
    have a1 := to c2
    have a2 := fr c3 ((u : Nat) + (v : Nat) / 3) (u + v / 3) (by omega)
    have fl2 : ∀ (xs ys : List Nat), xs.length + ys.length ≤ 100 → fzR (z :: c2 :: g) (dAdd (.fl (xs.map nD)) (.fl (ys.map nD)) (z :: c3 :: g)) = .ok (.fl ((xs ++ ys).map nD)) (z :: c3 :: g) := fun xs ys l => by
      rw [dAdd_fl, if_pos (by rw [List.length_map, List.length_map]; omega), fz_newL, ← List.map_append]
      exact fzD_pen (fun k => lo_nats) (fun k => p3.lo k)
    have a4 := fl2 (R.take u) [1 + x] (by rw [List.length_take, List.length_singleton]; omega)
    have a3 := fl2 (R.take u ++ [1 + x]) (R.drop (u + v / 3)) (by rw [List.length_append, List.length_take, List.length_drop, List.length_singleton]; omega)
    have one : fzD (z :: c2 :: g) (z :: c3 :: g) [.int (1 + (x : Nat))] = .ok (.fl ([1 + x].map nD)) (z :: c3 :: g) := by
      have : (1 + (x : Nat) : Int) = ((1 + x : Nat) : Int) := by omega
      rw [this]
      exact fzD_pen (fun k => rfl) (fun k => p3.lo k)
    have dv : cDiv (v : Nat) 3 = true := by simp [cDiv]
    unfold m__law_bent
    rw [ap_fnM]
    generalize hR : (R.take u ++ [1 + x] ++ R.drop (u + v / 3)).map nD = R3 at *
    generalize (R.take u ++ [1 + x]).map nD = R4 at *
    generalize (R.take u).map nD = R1 at *
    generalize (R.drop (u + v / 3)).map nD = R2 at *
    generalize [1 + x].map nD = RX at *
    generalize R.map nD = RR at *
    refine stN (env2 := [some (.ref 1), some (.fl RR), some (.int (w : Nat)), some (.int (u : Nat)), none]) (h2 := z :: c1 :: g) (by simp [rl, e1]) ?_
    refine stN (env2 := [some (.ref 1), some (.fl RR), some (.int (w : Nat)), some (.int (u : Nat)), some (.int (v : Nat))]) (h2 := z :: c2 :: g) (by simp [e2]) ?_
    refine stN (env2 := [some (.ref 1), some (.fl RR), some (.int (w : Nat)), some (.int (u : Nat)), some (.int (v : Nat))]) (h2 := z :: c2 :: g) (by simp [v0, v0']) ?_
    refine stN (env2 := [some (.ref 1), some (.fl RR), some (.int (w : Nat)), some (.int (u : Nat)), some (.int (v : Nat))]) (h2 := z :: c2 :: g) (by simp [v1', v1'']) ?_
    simp [a1, e3, newL_bind, fz_newL, fz_bind, one, a4, dv, a2, a3]
end
end NR

set_option Elab.async false
set_option linter.all false
set_option maxRecDepth 100000
set_option maxHeartbeats 4000000
namespace NR
open PySem PySem.Spec PyProof.Rows L2
def rD (R : List Nat) : D := .fl (R.map nD)
theorem cut_crs {s : Sh} {R : List Nat} : Cut (s.crs 0) R 0 R.length ↔ s.crs 0 R := by
  unfold Cut
  rw [seg_all]
  exact ⟨fun h => h.2.2, fun h => ⟨by omega, Nat.le_refl _, h⟩⟩
theorem row_ok {t : List Nat} {s : Sh} (hs : ShG t 5 s) {R : List Nat} (r11 : R.length ≤ 11) {X0 X1 X3 X5 X6 X7 X9 : Option D} {h : IH} : b_law_3 [X0, X1, some s.enc, X3, some (spD s), X5, X6, X7, some (rD R), X9] h = .nx [X0, X1, some s.enc, X3, some (spD s), X5, X6, X7, some (rD R), X9] h := by
  have al := along_call (s := s) (h := h) (R := R)
  obtain ⟨g, j, es, c1, c2, c3, c4, c5⟩ := comes_all (row := R) r11 5 24 s hs (by omega) (by omega) 0 0 h (by omega)
  have fz := fz_newM c2 c3 lo_natsM
  have inn : dIn false (.int (R.length : Nat)) (.fl (es.map nD)) h = .ok (.bl (decide (R.length ∈ es))) h := dIn_nats rfl
  have eq : s.lc 0 R = decide (R.length ∈ es) := by
    rw [Bool.eq_iff_iff, decide_eq_true_eq, c5, cut_crs, crs_loc hs.shd]
  rw [← eq] at inn
  have be : dEq true (.bl (s.lc 0 R)) (.bl (s.lc 0 R)) h = .ok (.bl false) h := by
    rw [dEq_self (by rfl)]
    rfl
  have rl : (R.map nD).length = R.length := List.length_map ..
  have c1 : callC 4 (m__law_comes 24) [s.enc, .int 0, .fl (R.map nD), .int 0] h = .ok (.ref j) (h ++ g) := c1
  have bl : bLen [.fl (R.map nD)] h = .ok (.int (R.length : Nat)) h := by
    rw [bLen_fl, rl]
  unfold b_law_3 rD
  generalize s.enc = E at *
  generalize spD s = S at *
  generalize h ++ g = H1 at *
  generalize es.map nD = ES at *
  generalize s.lc 0 R = B at *
  generalize hRR : R.map nD = RR at *
  have e : (mOp (dEq true) (mCall 2 (m__law_along) (mCons (mVar 4) (mCons (mVar 8) (mNil)))) (mOp (dIn false) (mB bLen (mCons (mVar 8) (mNil))) (mFz (mCall 4 ((m__law_comes 24)) (mCons (mVar 2) (mCons (mC (.int 0)) (mCons (mVar 8) (mCons (mC (.int 0)) (mNil))))))))) [X0, X1, some E, X3, some S, X5, X6, X7, some (.fl RR), X9] h = .ok (.bl false) h := by
    simp [al, c1, fz, rl, inn, be]
  rw [ap_msIf, ap_mTb, e]
  rfl
theorem rows_ok {t : List Nat} {s : Sh} (hs : ShG t 5 s) {X0 X1 X3 X5 X6 X7 X9 : Option D} {h : IH} : ∀ (rows : List (List Nat)), (∀ R ∈ rows, R.length ≤ 11) → ∀ x8 : Option D, ∃ y8, forL (gSet 8) b_law_3 (rows.map rD) [X0, X1, some s.enc, X3, some (spD s), X5, X6, X7, x8, X9] h = .nx [X0, X1, some s.enc, X3, some (spD s), X5, X6, X7, y8, X9] h
  | [], _, x8 => ⟨x8, rfl⟩
  | R :: rows, hr, x8 => by
    obtain ⟨y8, ih⟩ := rows_ok (X0 := X0) (X1 := X1) (X3 := X3) (X5 := X5) (X6 := X6) (X7 := X7) (X9 := X9) (h := h) hs rows (fun R hR => hr R (List.mem_cons_of_mem _ hR)) (some (rD R))
    refine ⟨y8, ?_⟩
    rw [List.map_cons, forL_cons (e1 := [X0, X1, some s.enc, X3, some (spD s), X5, X6, X7, some (rD R), X9]) rfl, row_ok hs (hr R List.mem_cons_self), on_nx]
    exact ih
theorem turn {t : List Nat} {s : Sh} (hs : ShG t 5 s) (w10 : s.wt ≤ 10) {z c P : Cell} {b k : Nat} (k1 : k ≤ 1) (hp : Pn (b + 9000) c) {rows : List (List Nat)} (hr : ∀ R ∈ rows, R.length ≤ 11) (rl : rows.length ≤ 100) {T : IH} {X0 x7 X8 : Option D} :
    ∃ (rows' : List (List Nat)) (c' : Cell) (T' : IH) (y7 : Option D), b_law_2 [X0, some (.ref 1), some s.enc, some (nD s.wt), some (spD s), some (.ref 3), some (nD k), x7, X8, none] (z :: c :: P :: .lst (rows.map rD) :: T) = .nx [X0, some (.ref 1), some s.enc, some (nD s.wt), some (spD s), some (.ref 3), some (nD k), y7, X8, none] (z :: c' :: P :: .lst (rows'.map rD) :: T') ∧ (∀ R ∈ rows', R.length ≤ 11) ∧ rows'.length ≤ rows.length + 4 ∧ Pn b c' := by
  have cb : cB 5 = 3110 := by decide
  obtain ⟨c1, g1, j, R, e1, f1, f2, f3, p1⟩ := course_all 5 24 s hs (by omega) (by omega) 0 (b + 5000) z c (P :: .lst (rows.map rD) :: T) (hp.mono (by omega))
  have fz : fzR (z :: c :: P :: .lst (rows.map rD) :: T) (.ok (.ref j) (z :: c1 :: (P :: .lst (rows.map rD) :: T ++ g1))) = .ok (.fl (R.map nD)) (z :: c1 :: P :: .lst (rows.map rD) :: T) := by
    rw [fzR_at (h := z :: c :: P :: .lst (rows.map rD) :: T) f2 (by simpa using f1) lo_nats ⟨.inl rfl, .inr (p1.lo _), okB_self⟩]
    simp
  have sl : fzR (z :: c :: P :: .lst (rows.map rD) :: T) (sliceD (.fl (R.map nD)) none (some 10) (z :: c1 :: P :: .lst (rows.map rD) :: T)) = .ok (rD (R.take 10)) (z :: c1 :: P :: .lst (rows.map rD) :: T) := by
    rw [sliceD_fl, cutD_to (by omega), fz_newL]
    show fzD _ _ ((R.map nD).take 10) = _
    rw [← List.map_take]
    exact fzD_pen (fun k => lo_nats) (fun k => p1.lo k)
  obtain ⟨G, c2, e2, gl, p2⟩ := gone_call (z := z) (c := c1) (g := P :: .lst (rows.map rD) :: T) (b := b + 4000) w10 (p1.mono (by omega))
  have tl : (R.take 10).length ≤ 10 := by rw [List.length_take]; omega
  have ext : ∀ (c : Cell) (rows : List (List Nat)) (T : IH) (A B : List Nat), rows.length ≤ 1000 → dIAddL (.ref 3) (.ref (z :: c :: P :: Cell.lst (rows.map rD) :: T).length) ((z :: c :: P :: .lst (rows.map rD) :: T) ++ [.lst [rD A, rD B]]) = .ok (.ref 3) (z :: c :: P :: .lst ((rows ++ [A, B]).map rD) :: (T ++ [.lst [rD A, rD B]])) := fun c rows T A B l => by
    have := dIAddL_new (h := (z :: c :: P :: .lst (rows.map rD) :: T) ++ [.lst [rD A, rD B]]) (h' := []) (l := 3) (xs := rows.map rD) (b := (z :: c :: P :: Cell.lst (rows.map rD) :: T).length) (zs := [rD A, rD B]) rfl get_last (by rw [List.length_map]; simp; omega)
    rw [this, List.map_append]
    rfl
  have x1 := ext c2 rows T (R.take 10) G (by omega)
  have s1 : msSet 7 (mFz (mSlice (mFz (mCall 3 ((m__law_course 24)) (mCons (mVar 1) (mCons (mVar 2) (mCons (mC (.int 0)) (mNil)))))) (moNone) (moSome (mC (.int 10))))) [X0, some (.ref 1), some s.enc, some (nD s.wt), some (spD s), some (.ref 3), some (nD k), x7, X8, none] (z :: c :: P :: .lst (rows.map rD) :: T) = .nx [X0, some (.ref 1), some s.enc, some (nD s.wt), some (spD s), some (.ref 3), some (nD k), some (rD (R.take 10)), X8, none] (z :: c1 :: P :: .lst (rows.map rD) :: T) := by
    have e1 : callC 3 (m__law_course 24) [.ref 1, s.enc, .int 0] (z :: c :: P :: .lst (rows.map rD) :: T) = .ok (.ref j) (z :: c1 :: (P :: .lst (rows.map rD) :: T ++ g1)) := e1
    clear x1 ext e2
    generalize z :: c1 :: (P :: Cell.lst (rows.map rD) :: T ++ g1) = H2 at *
    generalize z :: c1 :: P :: Cell.lst (rows.map rD) :: T = H1 at *
    generalize z :: c :: P :: Cell.lst (rows.map rD) :: T = H0 at *
    generalize s.enc = E at *
    generalize spD s = S at *
    generalize rD (R.take 10) = Q at *
    simp [e1, fz, sl]
  have s2 : msAug 5 dIAddL (mLst (mCons (mVar 7) (mCons (mCall 2 (m__law_gone) (mCons (mVar 1) (mCons (mVar 4) (mNil)))) (mNil)))) [X0, some (.ref 1), some s.enc, some (nD s.wt), some (spD s), some (.ref 3), some (nD k), some (rD (R.take 10)), X8, none] (z :: c1 :: P :: .lst (rows.map rD) :: T) = .nx [X0, some (.ref 1), some s.enc, some (nD s.wt), some (spD s), some (.ref 3), some (nD k), some (rD (R.take 10)), X8, none] (z :: c2 :: P :: .lst ((rows ++ [R.take 10, G]).map rD) :: (T ++ [.lst [rD (R.take 10), rD G]])) := by
    have e2 : callC 2 m__law_gone [.ref 1, spD s] (z :: c1 :: P :: .lst (rows.map rD) :: T) = .ok (rD G) (z :: c2 :: P :: .lst (rows.map rD) :: T) := e2
    generalize z :: c2 :: P :: Cell.lst ((rows ++ [R.take 10, G]).map rD) :: (T ++ [.lst [rD (R.take 10), rD G]]) = H3 at *
    generalize z :: c2 :: P :: Cell.lst (rows.map rD) :: T = H2 at *
    generalize z :: c1 :: P :: Cell.lst (rows.map rD) :: T = H1 at *
    generalize s.enc = E at *
    generalize spD s = S at *
    generalize rD (R.take 10) = Q at *
    generalize rD G = Q2 at *
    simp [e2, newL_bindS, x1]
  by_cases w0 : s.wt = 0
  · refine ⟨rows ++ [R.take 10, G], c2, T ++ [.lst [rD (R.take 10), rD G]], some (rD (R.take 10)), ?_, fun A hA => ?_, by simp, p2.mono (by omega)⟩
    · unfold b_law_2
      refine stS s1 (stS s2 ?_)
      rw [w0]
      generalize z :: c2 :: P :: Cell.lst ((rows ++ [R.take 10, G]).map rD) :: (T ++ [.lst [rD (R.take 10), rD G]]) = H3 at *
      simp [nD]
    · rcases List.mem_append.mp hA with hA | hA
      · exact hr A hA
      · simp only [List.mem_cons, List.not_mem_nil, or_false] at hA
        rcases hA with rfl | rfl
        · omega
        · omega
  · obtain ⟨R', c3, e3, rl', p3⟩ := bent_call (z := z) (c := c2) (g := P :: .lst ((rows ++ [R.take 10, G]).map rD) :: (T ++ [.lst [rD (R.take 10), rD G]])) (b := b + 1000) (R := R.take 10) (w := s.wt) tl (by omega) w10 (p2.mono (by omega))
    have rg : ∀ (E0 S0 Q0 : D) (H : IH), iRange1 (mCons (mOp dAdd (mVar 6) (mC (.int 2))) (mNil)) [X0, some (.ref 1), some E0, some (nD s.wt), some S0, some (.ref 3), some (nD k), some Q0, X8, none] H = .ok (.st (intsFrom 0 (k + 2))) H := fun E0 S0 Q0 H => iRange1_of (j := ((k + 2 : Nat) : Int)) (k := k + 2) (by simp [nD]) rfl (by omega)
    obtain ⟨ys, c4, e4, yl, yo, p4⟩ := lcF_penG (Pn := Pn) (b := b) (K := 1) (z := z) (cc := c3) (c0 := c3) (g := P :: .lst ((rows ++ [R.take 10, G]).map rD) :: (T ++ [.lst [rD (R.take 10), rD G]])) (ds := intsFrom 0 (k + 2)) (env := [X0, some (.ref 1), some s.enc, some (nD s.wt), some (spD s), some (.ref 3), some (nD k), some (rD (R.take 10)), X8, none]) (it := iRange1 (mCons (mOp dAdd (mVar 6) (mC (.int 2))) (mNil))) (gg := gSet 9) (ws := [9]) (m := e_law_1) Pn_lo
      (fun _ y => ∃ v : Nat, y = nD v) (rg _ _ _ _) (by rw [ints_len]; omega) (p3.mono (by rw [ints_len]; omega)) (fun _ y k ⟨v, h⟩ => by subst h; rfl) (fun i y _ => ⟨_, rfl, fun b c g hb => by
        obtain ⟨v, c', e, v1, q⟩ := draw_call (z := z) (c := c) (g := g) (b := b) (m := (s.wt : Nat)) hb (by omega) (by omega)
        refine ⟨nD (1 + v), c', [], ?_, q, _, rfl⟩
        have dv : ((1 : Int) + (v : Nat)) = ((1 + v : Nat) : Int) := by omega
        unfold e_law_1
        rw [List.append_nil]
        generalize s.enc = E0
        generalize spD s = S0
        generalize rD (R.take 10) = Q0
        simp [wipeE, nD, e]⟩)
    obtain ⟨W, rfl⟩ : ∃ W : List Nat, ys = W.map nD := by
      clear e4 yl
      have : ∀ y ∈ ys, ∃ v : Nat, y = nD v := fun y hy => by
        obtain ⟨i, hi⟩ := List.mem_iff_getElem?.mp hy
        exact yo i y hi
      clear yo
      induction ys with
      | nil => exact ⟨[], rfl⟩
      | cons y ys ih =>
        obtain ⟨v, rfl⟩ := this y List.mem_cons_self
        obtain ⟨W, rfl⟩ := ih fun y hy => this y (List.mem_cons_of_mem _ hy)
        exact ⟨v :: W, rfl⟩
    rw [List.length_map, ints_len] at yl
    have x2 := ext c4 (rows ++ [R.take 10, G]) (T ++ [.lst [rD (R.take 10), rD G]]) R' W (by simp; omega)
    refine ⟨(rows ++ [R.take 10, G]) ++ [R', W], c4, (T ++ [.lst [rD (R.take 10), rD G]]) ++ [.lst [rD R', rD W]], some (rD (R.take 10)), ?_, fun A hA => ?_, by simp, p4⟩
    · unfold b_law_2
      refine stS s1 (stS s2 ?_)
      have gt : (0 : Int) < (s.wt : Nat) := by omega
      have gt' : 0 < s.wt := by omega
      clear s1 s2 x1 ext sl fz e1
      have e3 : callC 3 m__law_bent [.ref 1, rD (R.take 10), nD s.wt] (z :: c2 :: P :: .lst ((rows ++ [R.take 10, G]).map rD) :: (T ++ [.lst [rD (R.take 10), rD G]])) = .ok (rD R') (z :: c3 :: P :: .lst ((rows ++ [R.take 10, G]).map rD) :: (T ++ [.lst [rD (R.take 10), rD G]])) := e3
      have ct : mTb (mOp dGt (mVar 3) (mC (.int 0))) [X0, some (.ref 1), some s.enc, some (nD s.wt), some (spD s), some (.ref 3), some (nD k), some (rD (R.take 10)), X8, none] (z :: c2 :: P :: .lst ((rows ++ [R.take 10, G]).map rD) :: (T ++ [.lst [rD (R.take 10), rD G]])) = .ok true (z :: c2 :: P :: .lst ((rows ++ [R.take 10, G]).map rD) :: (T ++ [.lst [rD (R.take 10), rD G]])) := by
        simp [nD, gt, gt']
      rw [ap_msIf, ct, bindS_ok, if_pos rfl]
      have e4 : mFz (mLc (iRange1 (mCons (mOp dAdd (mVar 6) (mC (.int 2))) (mNil))) (gSet 9) mYes e_law_1 [9]) [X0, some (.ref 1), some s.enc, some (nD s.wt), some (spD s), some (.ref 3), some (nD k), some (rD (R.take 10)), X8, none] (z :: c3 :: P :: .lst ((rows ++ [R.take 10, G]).map rD) :: (T ++ [.lst [rD (R.take 10), rD G]])) = .ok (rD W) (z :: c4 :: P :: .lst ((rows ++ [R.take 10, G]).map rD) :: (T ++ [.lst [rD (R.take 10), rD G]])) := e4
      clear ct
      generalize z :: c4 :: P :: Cell.lst ((rows ++ [R.take 10, G] ++ [R', W]).map rD) :: (T ++ [.lst [rD (R.take 10), rD G]] ++ [.lst [rD R', rD W]]) = H6 at *
      generalize z :: c4 :: P :: Cell.lst ((rows ++ [R.take 10, G]).map rD) :: (T ++ [.lst [rD (R.take 10), rD G]]) = H5 at *
      generalize z :: c3 :: P :: Cell.lst ((rows ++ [R.take 10, G]).map rD) :: (T ++ [.lst [rD (R.take 10), rD G]]) = H4 at *
      generalize z :: c2 :: P :: Cell.lst ((rows ++ [R.take 10, G]).map rD) :: (T ++ [.lst [rD (R.take 10), rD G]]) = H3 at *
      generalize mFz (mLc (iRange1 (mCons (mOp dAdd (mVar 6) (mC (.int 2))) (mNil))) (gSet 9) mYes e_law_1 [9]) = CC at *
      generalize s.enc = E at *
      generalize spD s = S at *
      generalize rD (R.take 10) = Q at *
      generalize rD G = Q2 at *
      generalize rD R' = Q3 at *
      generalize rD W = Q4 at *
      generalize nD s.wt = WT at *
      simp [e3, e4, newL_bindS, x2]
    · rcases List.mem_append.mp hA with hA | hA
      · rcases List.mem_append.mp hA with hA | hA
        · exact hr A hA
        · simp only [List.mem_cons, List.not_mem_nil, or_false] at hA
          rcases hA with rfl | rfl
          · omega
          · omega
      · simp only [List.mem_cons, List.not_mem_nil, or_false] at hA
        rcases hA with rfl | rfl
        · omega
        · omega
theorem law_true : LawOk m_law := by
  intro ns l
  obtain ⟨c0, e0, p0⟩ := source_eq ns l
  generalize Cell.frz (ns.map D.int) = z at *
  obtain ⟨t, c1, e1, tg, p1⟩ := tongue_call (b := 90000) (z := z) (c := c0) (g := []) (p0.mono (by omega))
  obtain ⟨x, r1, c2, e2, sg1, _, p2, wx⟩ := kshapeW tg 5 24 (by omega) (by omega) (by omega) 80000 24 0 10 z c1 [pu 24] rfl (by omega) (by omega) (p1.mono (by omega))
  have wx := wx (by omega)
  obtain ⟨s, rfl, hs⟩ := sg_of sg1
  rw [wt_enc hs.shd] at wx
  have w10 : s.wt ≤ 10 := by omega
  have e2 : callC 5 (m__law_shape 24) [.ref 1, .str t, .int 5, .int 10, .ref 2] [z, c1, .lst [.int 24]] = .ok s.enc [z, c2, pu r1] := e2
  have e3 := lwt hs.shd (by omega) [z, c2, pu r1]
  have sc := spread_call hs.shd (sh_enc hs.shd) (by omega) w10 [z, c2, pu r1]
  have t1' : dIx (spD s) (.int 1) [z, c2, pu r1] = .ok (.tup ((List.range (s.wt + 1)).map fun i => D.tup ((spR s i).map nD))) [z, c2, pu r1] := ix1
  have t0' : dIx (spD s) (.int 0) [z, c2, pu r1] = .ok (.tup (([] :: s.mk).map D.str)) [z, c2, pu r1] := ix0
  have l1 : ((List.range (s.wt + 1)).map fun i => D.tup ((spR s i).map nD)).length = s.wt + 1 := by rw [List.length_map, List.length_range]
  have l0 : (([] :: s.mk).map D.str).length = s.wt + 1 := by rw [List.length_map, List.length_cons, mk_len]
  have wc : ((s.wt + 1 : Nat) : Int) = 1 + (s.wt : Nat) := by omega
  -- the two turns
  obtain ⟨rows1, c3, T1, y7, b1, r1', l1', p3⟩ := turn hs w10 (z := z) (c := c2) (P := pu r1) (b := 20000) (k := 0) (by omega) (p2.mono (by omega)) (rows := [[]]) (by simp) (by simp) (T := []) (X0 := some (.ref 0)) (x7 := none) (X8 := none)
  obtain ⟨rows2, c4, T2, z7, b2, r2', l2', p4⟩ := turn hs w10 (z := z) (c := c3) (P := pu r1) (b := 1000) (k := 1) (by omega) (p3.mono (by omega)) (rows := rows1) r1' (by simp at l1'; omega) (T := T1) (X0 := some (.ref 0)) (x7 := y7) (X8 := none)
  have lp : forL (gSet 6) b_law_2 (intsFrom 0 2) [some (.ref 0), some (.ref 1), some s.enc, some (nD s.wt), some (spD s), some (.ref 3), none, none, none, none] [z, c2, pu r1, .lst [rD []]] = .nx [some (.ref 0), some (.ref 1), some s.enc, some (nD s.wt), some (spD s), some (.ref 3), some (nD 1), z7, none, none] (z :: c4 :: pu r1 :: .lst (rows2.map rD) :: T2) := by
    show forL (gSet 6) b_law_2 [nD 0, nD 1] _ _ = _
    rw [forL_cons (e1 := [some (.ref 0), some (.ref 1), some s.enc, some (nD s.wt), some (spD s), some (.ref 3), some (nD 0), none, none, none]) rfl]
    have b1 : b_law_2 [some (.ref 0), some (.ref 1), some s.enc, some (nD s.wt), some (spD s), some (.ref 3), some (nD 0), none, none, none] [z, c2, pu r1, .lst [rD []]] = _ := b1
    rw [b1, on_nx, forL_cons (e1 := [some (.ref 0), some (.ref 1), some s.enc, some (nD s.wt), some (spD s), some (.ref 3), some (nD 1), y7, none, none]) rfl, b2, on_nx, forL_nil]
  obtain ⟨y8, ro⟩ := rows_ok hs (X0 := some (.ref 0)) (X1 := some (.ref 1)) (X3 := some (nD s.wt)) (X5 := some (.fl (rows2.map rD))) (X6 := some (nD 1)) (X7 := z7) (X9 := none) (h := z :: c4 :: pu r1 :: .frz (rows2.map rD) :: T2) rows2 r2' none
  show ∃ h', m_law _ _ = _
  unfold m_law
  rw [ap_fnM]
  simp only [List.map_cons, List.map_nil, List.length_cons, List.length_nil, List.cons_append, List.nil_append, Nat.reduceAdd, Nat.reduceSub, List.replicate]
  refine stX (env2 := [some (.ref 0), some (.ref 1), none, none, none, none, none, none, none, none]) (h2 := [z, c0]) (by simp [e0]) ?_
  refine stX (env2 := [some (.ref 0), some (.ref 1), some s.enc, none, none, none, none, none, none, none]) (h2 := [z, c2, pu r1]) (by
    generalize s.enc = E at *
    generalize pu r1 = P1 at *
    simp [e1, newL_bind, e2]) ?_
  refine stX (env2 := [some (.ref 0), some (.ref 1), some s.enc, some (nD s.wt), none, none, none, none, none, none]) (h2 := [z, c2, pu r1]) (by
    generalize s.enc = E at *
    generalize pu r1 = P1 at *
    simp [e3, nD]) ?_
  refine stX (env2 := [some (.ref 0), some (.ref 1), some s.enc, some (nD s.wt), some (spD s), none, none, none, none, none]) (h2 := [z, c2, pu r1]) (by
    generalize s.enc = E at *
    generalize spD s = S at *
    generalize pu r1 = P1 at *
    simp [sc]) ?_
  refine stX (env2 := [some (.ref 0), some (.ref 1), some s.enc, some (nD s.wt), some (spD s), none, none, none, none, none]) (h2 := [z, c2, pu r1]) (by
    generalize s.enc = E at *
    generalize spD s = S at *
    generalize pu r1 = P1 at *
    generalize (List.range (s.wt + 1)).map (fun i => D.tup ((spR s i).map nD)) = RR at *
    generalize ([] :: s.mk).map D.str = MM at *
    have nw : ((s.wt : Nat) : Int) + 1 = 1 + (s.wt : Nat) := by omega
    simp [t1', t0', l1, l0, nD, nw]) ?_
  refine stX (env2 := [some (.ref 0), some (.ref 1), some s.enc, some (nD s.wt), some (spD s), some (.ref 3), none, none, none, none]) (h2 := [z, c2, pu r1, .lst [rD []]]) (by
    have z0 : fzD [z, c2, pu r1] [z, c2, pu r1] [] = .ok (rD []) [z, c2, pu r1] := fzD_same rfl
    generalize s.enc = E at *
    generalize spD s = S at *
    generalize pu r1 = P1 at *
    generalize rD [] = Q at *
    simp [newL_bindS, z0]) ?_
  refine stX ((for_st (ds := intsFrom 0 2) (h2 := [z, c2, pu r1, .lst [rD []]]) (iRange1_of (j := 2) (k := 2) (by simp) rfl (by omega))).trans lp) ?_
  refine stX (env2 := [some (.ref 0), some (.ref 1), some s.enc, some (nD s.wt), some (spD s), some (.fl (rows2.map rD)), some (nD 1), z7, y8, none]) (h2 := z :: c4 :: pu r1 :: .frz (rows2.map rD) :: T2) ?_ ?_
  · rw [ap_msFz (i := 5) (n := 3) (xs := rows2.map rD) rfl rfl]
    exact (for_st (ds := rows2.map rD) (h2 := z :: c4 :: pu r1 :: .frz (rows2.map rD) :: T2) rfl).trans ro
  exact ⟨_, by simp; rfl⟩
end NR

set_option Elab.async false
set_option linter.all false
set_option maxRecDepth 100000
set_option maxHeartbeats 4000000
namespace NR
open PySem PySem.Spec PyProof.Rows L2
theorem all_mk {l : PySem.W.OpenLaw} {w : World} {K : PySem.W.Frag} {h : Heap} {mg : Str → Option Value} {fa : Addr} (X : K.In h) (Gn : h.Ns mainGlobals mg) (hfa : mg "law" = some (.ref fa))
    (z_abs : PySem.W.nsIn K mainGlobals "abs" = some none)
    (z_enumerate : PySem.W.nsIn K mainGlobals "enumerate" = some none)
    (z_int : PySem.W.nsIn K mainGlobals "int" = some none)
    (z_len : PySem.W.nsIn K mainGlobals "len" = some none)
    (z_max : PySem.W.nsIn K mainGlobals "max" = some none)
    (z_range : PySem.W.nsIn K mainGlobals "range" = some none)
    (z_set : PySem.W.nsIn K mainGlobals "set" = some none)
    (z_sorted : PySem.W.nsIn K mainGlobals "sorted" = some none)
    (z_sum : PySem.W.nsIn K mainGlobals "sum" = some none)
    (z_tuple : PySem.W.nsIn K mainGlobals "tuple" = some none)
    (g_MOST_WEIGHT : ∃ t, PySem.W.nsIn K mainGlobals "MOST_WEIGHT" = some (some (.int 10 t)))
    {c_Plan : Addr} (ca_Plan : PySem.W.nsIn K mainGlobals "Plan" = some (some (.ref c_Plan)))
    {c_TooHeavy : Addr} (ca_TooHeavy : PySem.W.nsIn K mainGlobals "TooHeavy" = some (some (.ref c_TooHeavy)))
    (cq_TooHeavy : PySem.W.excIn K c_TooHeavy [.type "ValueError", .type "Exception", .type "BaseException", .type "object"] "ValueError.__new__" = true)
    (ck_TooHeavy : PySem.W.keepIn K (.ref c_TooHeavy) = true)
    (cb_TooHeavy : PySem.W.subIn K (.ref c_TooHeavy) (.type "BaseException") = some true)
    (ct_TooHeavy : PySem.W.typeIn K (.ref c_TooHeavy) = some (.type "type"))
    (cg_TooHeavy : PySem.W.findIn K (.ref c_TooHeavy) "__getattribute__" = some (some (.builtin "BaseException.__getattribute__")))
    (ch_TooHeavy : PySem.W.findIn K (.ref c_TooHeavy) "__getattr__" = some none)
    (cd_TooHeavy : PySem.W.hasDictIn K c_TooHeavy = true)
    (cc_TooHeavy : PySem.W.findIn K (.ref c_TooHeavy) "__class__" = some (some (.builtin "object.__class__")))
    (cm_TooHeavy : PySem.W.mroIn K c_TooHeavy (.type "object") = some true)
    (cn : PySem.W.specialIn K (.builtin "object.__class__") "__get__" = some (some (.builtin "getset_descriptor.__get__")))
    (cx : PySem.W.takesIn K (.builtin "object.__class__") = some true)
    (pg_Plan : PySem.W.plainGet K c_Plan Str.empty = true)
    (hq_Plan : PySem.W.hasDictIn K c_Plan = true)
    (po_Plan : PySem.W.plainOver K c_Plan = true)
    (sa_Plan : PySem.W.findIn K (.ref c_Plan) "__setattr__" = some (some (.builtin "object.__setattr__")))
    (mk_Plan : PySem.W.makesIn K c_Plan = true)
    (kq_Plan : PySem.W.keepIn K (.ref c_Plan) = true)
    (n_Plan_marks : PySem.W.findIn K (.ref c_Plan) "marks" = some none)
    (n_Plan_nexts : PySem.W.findIn K (.ref c_Plan) "nexts" = some none)
    {f0 : Addr} {od0 an0 : Option Addr} {sl0 : Array (Option Value)} {oc0 kV0 dc0 pm0 cd0 ct0 : Value} (a0 : PySem.W.nsIn K mainGlobals "inner" = some (some (.ref f0))) (l0 : K.lookup f0 = some ⟨oc0, od0, .func (PySem.W.fnOf "inner" "inner" (defArgs (topS 4)) (defBody (topS 4)) (defScope (topS 4)) .none kV0 dc0 pm0 an0 cd0 ct0), sl0⟩) (b0 : PySem.W.codeIn K cd0 "inner" = true) (k0 : PySem.W.keepIn K (.ref f0) = true)
    {f1 : Addr} {od1 an1 : Option Addr} {sl1 : Array (Option Value)} {oc1 kV1 dc1 pm1 cd1 ct1 : Value} (a1 : PySem.W.findIn K (.ref c_Plan) "__init__" = some (some (.ref f1))) (l1 : K.lookup f1 = some ⟨oc1, od1, .func (PySem.W.fnOf "__init__" "Plan.__init__" (defArgs (inClass (topS 8) 0)) (defBody (inClass (topS 8) 0)) (defScope (inClass (topS 8) 0)) .none kV1 dc1 pm1 an1 cd1 ct1), sl1⟩) (b1 : PySem.W.codeIn K cd1 "Plan.__init__" = true) (k1 : PySem.W.keepIn K (.ref f1) = true) (s1 : PySem.W.isFn K (.ref f1) = true)
    {f2 : Addr} {od2 an2 : Option Addr} {sl2 : Array (Option Value)} {oc2 kV2 dc2 pm2 cd2 ct2 : Value} (a2 : PySem.W.findIn K (.ref c_Plan) "lay" = some (some (.ref f2))) (l2 : K.lookup f2 = some ⟨oc2, od2, .func (PySem.W.fnOf "lay" "Plan.lay" (defArgs (inClass (topS 8) 1)) (defBody (inClass (topS 8) 1)) (defScope (inClass (topS 8) 1)) .none kV2 dc2 pm2 an2 cd2 ct2), sl2⟩) (b2 : PySem.W.codeIn K cd2 "Plan.lay" = true) (k2 : PySem.W.keepIn K (.ref f2) = true) (s2 : PySem.W.isFn K (.ref f2) = true)
    {f3 : Addr} {od3 an3 : Option Addr} {sl3 : Array (Option Value)} {oc3 kV3 dc3 pm3 cd3 ct3 : Value} (a3 : PySem.W.findIn K (.ref c_Plan) "link" = some (some (.ref f3))) (l3 : K.lookup f3 = some ⟨oc3, od3, .func (PySem.W.fnOf "link" "Plan.link" (defArgs (inClass (topS 8) 2)) (defBody (inClass (topS 8) 2)) (defScope (inClass (topS 8) 2)) .none kV3 dc3 pm3 an3 cd3 ct3), sl3⟩) (b3 : PySem.W.codeIn K cd3 "Plan.link" = true) (k3 : PySem.W.keepIn K (.ref f3) = true) (s3 : PySem.W.isFn K (.ref f3) = true)
    {f4 : Addr} {od4 an4 : Option Addr} {sl4 : Array (Option Value)} {oc4 kV4 dc4 pm4 cd4 ct4 : Value} (a4 : PySem.W.nsIn K mainGlobals "_law_source" = some (some (.ref f4))) (l4 : K.lookup f4 = some ⟨oc4, od4, .func (PySem.W.fnOf "_law_source" "_law_source" (defArgs (topS 17)) (defBody (topS 17)) (defScope (topS 17)) .none kV4 dc4 pm4 an4 cd4 ct4), sl4⟩) (b4 : PySem.W.codeIn K cd4 "_law_source" = true) (k4 : PySem.W.keepIn K (.ref f4) = true)
    {f5 : Addr} {od5 an5 : Option Addr} {sl5 : Array (Option Value)} {oc5 kV5 dc5 pm5 cd5 ct5 : Value} (a5 : PySem.W.nsIn K mainGlobals "_law_draw" = some (some (.ref f5))) (l5 : K.lookup f5 = some ⟨oc5, od5, .func (PySem.W.fnOf "_law_draw" "_law_draw" (defArgs (topS 18)) (defBody (topS 18)) (defScope (topS 18)) .none kV5 dc5 pm5 an5 cd5 ct5), sl5⟩) (b5 : PySem.W.codeIn K cd5 "_law_draw" = true) (k5 : PySem.W.keepIn K (.ref f5) = true)
    {f6 : Addr} {od6 an6 : Option Addr} {sl6 : Array (Option Value)} {oc6 kV6 dc6 pm6 cd6 ct6 : Value} (a6 : PySem.W.nsIn K mainGlobals "_law_signs" = some (some (.ref f6))) (l6 : K.lookup f6 = some ⟨oc6, od6, .func (PySem.W.fnOf "_law_signs" "_law_signs" (defArgs (topS 19)) (defBody (topS 19)) (defScope (topS 19)) .none kV6 dc6 pm6 an6 cd6 ct6), sl6⟩) (b6 : PySem.W.codeIn K cd6 "_law_signs" = true) (k6 : PySem.W.keepIn K (.ref f6) = true)
    {f7 : Addr} {od7 an7 : Option Addr} {sl7 : Array (Option Value)} {oc7 kV7 dc7 pm7 cd7 ct7 : Value} (a7 : PySem.W.nsIn K mainGlobals "_law_laid" = some (some (.ref f7))) (l7 : K.lookup f7 = some ⟨oc7, od7, .func (PySem.W.fnOf "_law_laid" "_law_laid" (defArgs (topS 24)) (defBody (topS 24)) (defScope (topS 24)) .none kV7 dc7 pm7 an7 cd7 ct7), sl7⟩) (b7 : PySem.W.codeIn K cd7 "_law_laid" = true) (k7 : PySem.W.keepIn K (.ref f7) = true)
    {f8 : Addr} {od8 an8 : Option Addr} {sl8 : Array (Option Value)} {oc8 kV8 dc8 pm8 cd8 ct8 : Value} (a8 : PySem.W.nsIn K mainGlobals "_law_along" = some (some (.ref f8))) (l8 : K.lookup f8 = some ⟨oc8, od8, .func (PySem.W.fnOf "_law_along" "_law_along" (defArgs (topS 31)) (defBody (topS 31)) (defScope (topS 31)) .none kV8 dc8 pm8 an8 cd8 ct8), sl8⟩) (b8 : PySem.W.codeIn K cd8 "_law_along" = true) (k8 : PySem.W.keepIn K (.ref f8) = true)
    {f9 : Addr} {od9 an9 : Option Addr} {sl9 : Array (Option Value)} {oc9 kV9 dc9 pm9 cd9 ct9 : Value} (a9 : PySem.W.nsIn K mainGlobals "in_turn" = some (some (.ref f9))) (l9 : K.lookup f9 = some ⟨oc9, od9, .func (PySem.W.fnOf "in_turn" "in_turn" (defArgs (topS 9)) (defBody (topS 9)) (defScope (topS 9)) .none kV9 dc9 pm9 an9 cd9 ct9), sl9⟩) (b9 : PySem.W.codeIn K cd9 "in_turn" = true) (k9 : PySem.W.keepIn K (.ref f9) = true)
    {f10 : Addr} {od10 an10 : Option Addr} {sl10 : Array (Option Value)} {oc10 kV10 dc10 pm10 cd10 ct10 : Value} (a10 : PySem.W.nsIn K mainGlobals "_law_tongue" = some (some (.ref f10))) (l10 : K.lookup f10 = some ⟨oc10, od10, .func (PySem.W.fnOf "_law_tongue" "_law_tongue" (defArgs (topS 20)) (defBody (topS 20)) (defScope (topS 20)) .none kV10 dc10 pm10 an10 cd10 ct10), sl10⟩) (b10 : PySem.W.codeIn K cd10 "_law_tongue" = true) (k10 : PySem.W.keepIn K (.ref f10) = true)
    {f11 : Addr} {od11 an11 : Option Addr} {sl11 : Array (Option Value)} {oc11 kV11 dc11 pm11 cd11 ct11 : Value} (a11 : PySem.W.nsIn K mainGlobals "_law_ones" = some (some (.ref f11))) (l11 : K.lookup f11 = some ⟨oc11, od11, .func (PySem.W.fnOf "_law_ones" "_law_ones" (defArgs (topS 21)) (defBody (topS 21)) (defScope (topS 21)) .none kV11 dc11 pm11 an11 cd11 ct11), sl11⟩) (b11 : PySem.W.codeIn K cd11 "_law_ones" = true) (k11 : PySem.W.keepIn K (.ref f11) = true)
    {f12 : Addr} {od12 an12 : Option Addr} {sl12 : Array (Option Value)} {oc12 kV12 dc12 pm12 cd12 ct12 : Value} (a12 : PySem.W.nsIn K mainGlobals "_law_gone" = some (some (.ref f12))) (l12 : K.lookup f12 = some ⟨oc12, od12, .func (PySem.W.fnOf "_law_gone" "_law_gone" (defArgs (topS 29)) (defBody (topS 29)) (defScope (topS 29)) .none kV12 dc12 pm12 an12 cd12 ct12), sl12⟩) (b12 : PySem.W.codeIn K cd12 "_law_gone" = true) (k12 : PySem.W.keepIn K (.ref f12) = true)
    {f13 : Addr} {od13 an13 : Option Addr} {sl13 : Array (Option Value)} {oc13 kV13 dc13 pm13 cd13 ct13 : Value} (a13 : PySem.W.nsIn K mainGlobals "_law_bent" = some (some (.ref f13))) (l13 : K.lookup f13 = some ⟨oc13, od13, .func (PySem.W.fnOf "_law_bent" "_law_bent" (defArgs (topS 30)) (defBody (topS 30)) (defScope (topS 30)) .none kV13 dc13 pm13 an13 cd13 ct13), sl13⟩) (b13 : PySem.W.codeIn K cd13 "_law_bent" = true) (k13 : PySem.W.keepIn K (.ref f13) = true)
    {f14 : Addr} {od14 an14 : Option Addr} {sl14 : Array (Option Value)} {oc14 kV14 dc14 pm14 cd14 ct14 : Value} (a14 : PySem.W.nsIn K mainGlobals "_law_weight" = some (some (.ref f14))) (l14 : K.lookup f14 = some ⟨oc14, od14, .func (PySem.W.fnOf "_law_weight" "_law_weight" (defArgs (topS 22)) (defBody (topS 22)) (defScope (topS 22)) .none kV14 dc14 pm14 an14 cd14 ct14), sl14⟩) (b14 : PySem.W.codeIn K cd14 "_law_weight" = true) (k14 : PySem.W.keepIn K (.ref f14) = true)
    {f15 : Addr} {od15 an15 : Option Addr} {sl15 : Array (Option Value)} {oc15 kV15 dc15 pm15 cd15 ct15 : Value} (a15 : PySem.W.nsIn K mainGlobals "weight" = some (some (.ref f15))) (l15 : K.lookup f15 = some ⟨oc15, od15, .func (PySem.W.fnOf "weight" "weight" (defArgs (topS 5)) (defBody (topS 5)) (defScope (topS 5)) .none kV15 dc15 pm15 an15 cd15 ct15), sl15⟩) (b15 : PySem.W.codeIn K cd15 "weight" = true) (k15 : PySem.W.keepIn K (.ref f15) = true)
    {f16 : Addr} {od16 an16 : Option Addr} {sl16 : Array (Option Value)} {oc16 kV16 dc16 pm16 cd16 ct16 : Value} (a16 : PySem.W.nsIn K mainGlobals "laid_row" = some (some (.ref f16))) (l16 : K.lookup f16 = some ⟨oc16, od16, .func (PySem.W.fnOf "laid_row" "laid_row" (defArgs (topS 10)) (defBody (topS 10)) (defScope (topS 10)) .none kV16 dc16 pm16 an16 cd16 ct16), sl16⟩) (b16 : PySem.W.codeIn K cd16 "laid_row" = true) (k16 : PySem.W.keepIn K (.ref f16) = true)
    {f17 : Addr} {od17 an17 : Option Addr} {sl17 : Array (Option Value)} {oc17 kV17 dc17 pm17 cd17 ct17 : Value} (a17 : PySem.W.nsIn K mainGlobals "laid_either" = some (some (.ref f17))) (l17 : K.lookup f17 = some ⟨oc17, od17, .func (PySem.W.fnOf "laid_either" "laid_either" (defArgs (topS 11)) (defBody (topS 11)) (defScope (topS 11)) .none kV17 dc17 pm17 an17 cd17 ct17), sl17⟩) (b17 : PySem.W.codeIn K cd17 "laid_either" = true) (k17 : PySem.W.keepIn K (.ref f17) = true)
    {f18 : Addr} {od18 an18 : Option Addr} {sl18 : Array (Option Value)} {oc18 kV18 dc18 pm18 cd18 ct18 : Value} (a18 : PySem.W.nsIn K mainGlobals "laid_many" = some (some (.ref f18))) (l18 : K.lookup f18 = some ⟨oc18, od18, .func (PySem.W.fnOf "laid_many" "laid_many" (defArgs (topS 12)) (defBody (topS 12)) (defScope (topS 12)) .none kV18 dc18 pm18 an18 cd18 ct18), sl18⟩) (b18 : PySem.W.codeIn K cd18 "laid_many" = true) (k18 : PySem.W.keepIn K (.ref f18) = true)
    {f19 : Addr} {od19 an19 : Option Addr} {sl19 : Array (Option Value)} {oc19 kV19 dc19 pm19 cd19 ct19 : Value} (a19 : PySem.W.nsIn K mainGlobals "laid_times" = some (some (.ref f19))) (l19 : K.lookup f19 = some ⟨oc19, od19, .func (PySem.W.fnOf "laid_times" "laid_times" (defArgs (topS 13)) (defBody (topS 13)) (defScope (topS 13)) .none kV19 dc19 pm19 an19 cd19 ct19), sl19⟩) (b19 : PySem.W.codeIn K cd19 "laid_times" = true) (k19 : PySem.W.keepIn K (.ref f19) = true)
    {f20 : Addr} {od20 an20 : Option Addr} {sl20 : Array (Option Value)} {oc20 kV20 dc20 pm20 cd20 ct20 : Value} (a20 : PySem.W.nsIn K mainGlobals "laid" = some (some (.ref f20))) (l20 : K.lookup f20 = some ⟨oc20, od20, .func (PySem.W.fnOf "laid" "laid" (defArgs (topS 14)) (defBody (topS 14)) (defScope (topS 14)) .none kV20 dc20 pm20 an20 cd20 ct20), sl20⟩) (b20 : PySem.W.codeIn K cd20 "laid" = true) (k20 : PySem.W.keepIn K (.ref f20) = true)
    {f21 : Addr} {od21 an21 : Option Addr} {sl21 : Array (Option Value)} {oc21 kV21 dc21 pm21 cd21 ct21 : Value} (a21 : PySem.W.nsIn K mainGlobals "spread" = some (some (.ref f21))) (l21 : K.lookup f21 = some ⟨oc21, od21, .func (PySem.W.fnOf "spread" "spread" (defArgs (topS 15)) (defBody (topS 15)) (defScope (topS 15)) .none kV21 dc21 pm21 an21 cd21 ct21), sl21⟩) (b21 : PySem.W.codeIn K cd21 "spread" = true) (k21 : PySem.W.keepIn K (.ref f21) = true)
    {f22 : Addr} {od22 an22 : Option Addr} {sl22 : Array (Option Value)} {oc22 kV22 dc22 pm22 cd22 ct22 : Value} (a22 : PySem.W.nsIn K mainGlobals "_law_shape" = some (some (.ref f22))) (l22 : K.lookup f22 = some ⟨oc22, od22, .func (PySem.W.fnOf "_law_shape" "_law_shape" (defArgs (topS 23)) (defBody (topS 23)) (defScope (topS 23)) .none kV22 dc22 pm22 an22 cd22 ct22), sl22⟩) (b22 : PySem.W.codeIn K cd22 "_law_shape" = true) (k22 : PySem.W.keepIn K (.ref f22) = true)
    {f23 : Addr} {od23 an23 : Option Addr} {sl23 : Array (Option Value)} {oc23 kV23 dc23 pm23 cd23 ct23 : Value} (a23 : PySem.W.nsIn K mainGlobals "_law_comes" = some (some (.ref f23))) (l23 : K.lookup f23 = some ⟨oc23, od23, .func (PySem.W.fnOf "_law_comes" "_law_comes" (defArgs (topS 25)) (defBody (topS 25)) (defScope (topS 25)) .none kV23 dc23 pm23 an23 cd23 ct23), sl23⟩) (b23 : PySem.W.codeIn K cd23 "_law_comes" = true) (k23 : PySem.W.keepIn K (.ref f23) = true)
    {f24 : Addr} {od24 an24 : Option Addr} {sl24 : Array (Option Value)} {oc24 kV24 dc24 pm24 cd24 ct24 : Value} (a24 : PySem.W.nsIn K mainGlobals "_law_comes_behind" = some (some (.ref f24))) (l24 : K.lookup f24 = some ⟨oc24, od24, .func (PySem.W.fnOf "_law_comes_behind" "_law_comes_behind" (defArgs (topS 26)) (defBody (topS 26)) (defScope (topS 26)) .none kV24 dc24 pm24 an24 cd24 ct24), sl24⟩) (b24 : PySem.W.codeIn K cd24 "_law_comes_behind" = true) (k24 : PySem.W.keepIn K (.ref f24) = true)
    {f25 : Addr} {od25 an25 : Option Addr} {sl25 : Array (Option Value)} {oc25 kV25 dc25 pm25 cd25 ct25 : Value} (a25 : PySem.W.nsIn K mainGlobals "_law_comes_often" = some (some (.ref f25))) (l25 : K.lookup f25 = some ⟨oc25, od25, .func (PySem.W.fnOf "_law_comes_often" "_law_comes_often" (defArgs (topS 27)) (defBody (topS 27)) (defScope (topS 27)) .none kV25 dc25 pm25 an25 cd25 ct25), sl25⟩) (b25 : PySem.W.codeIn K cd25 "_law_comes_often" = true) (k25 : PySem.W.keepIn K (.ref f25) = true)
    {f26 : Addr} {od26 an26 : Option Addr} {sl26 : Array (Option Value)} {oc26 kV26 dc26 pm26 cd26 ct26 : Value} (a26 : PySem.W.nsIn K mainGlobals "_law_course" = some (some (.ref f26))) (l26 : K.lookup f26 = some ⟨oc26, od26, .func (PySem.W.fnOf "_law_course" "_law_course" (defArgs (topS 28)) (defBody (topS 28)) (defScope (topS 28)) .none kV26 dc26 pm26 an26 cd26 ct26), sl26⟩) (b26 : PySem.W.codeIn K cd26 "_law_course" = true) (k26 : PySem.W.keepIn K (.ref f26) = true)
    {f27 : Addr} {od27 an27 : Option Addr} {sl27 : Array (Option Value)} {oc27 kV27 dc27 pm27 cd27 ct27 : Value} (a27 : PySem.W.nsIn K mainGlobals "law" = some (some (.ref f27))) (l27 : K.lookup f27 = some ⟨oc27, od27, .func (PySem.W.fnOf "law" "law" (defArgs (topS 32)) (defBody (topS 32)) (defScope (topS 32)) .none kV27 dc27 pm27 an27 cd27 ct27), sl27⟩) (b27 : PySem.W.codeIn K cd27 "law" = true) (k27 : PySem.W.keepIn K (.ref f27) = true) :
    ∃ fd : FuncData, (∀ (s : Shared) (v : Value), BindsTo s fd ⟨[v], []⟩ [("_law_script", v)]) ∧ ∀ base : Heap, K.In base → base.Ns mainGlobals mg → FnOk l.prog w K mg base (L2.CX l.prog w) 49 fa fd ["_law_script"] (spLaw ⟨K, fun _ => 0⟩ m_law) := by
  have e := hfa.symm.trans (PySem.W.mg_of X Gn a27)
  cases e
  have F0 := fun_mk (st := topS 4) l0 b0 k0
  have B0 := F0.binds (ps := ["shape"]) fun _ _ _ _ _ _ us hl => match us, hl with | [_], _ => rfl
  have F1 := fun_mk (st := inClass (topS 8) 0) l1 b1 k1
  have B1 := F1.binds (ps := ["self"]) fun _ _ _ _ _ _ us hl => match us, hl with | [_], _ => rfl
  have F2 := fun_mk (st := inClass (topS 8) 1) l2 b2 k2
  have B2 := F2.binds (ps := ["self", "signs"]) fun _ _ _ _ _ _ us hl => match us, hl with | [_, _], _ => rfl
  have F3 := fun_mk (st := inClass (topS 8) 2) l3 b3 k3
  have B3 := F3.binds (ps := ["self", "places", "others"]) fun _ _ _ _ _ _ us hl => match us, hl with | [_, _, _], _ => rfl
  have F4 := fun_mk (st := topS 17) l4 b4 k4
  have B4 := F4.binds (ps := ["_law_script"]) fun _ _ _ _ _ _ us hl => match us, hl with | [_], _ => rfl
  have F5 := fun_mk (st := topS 18) l5 b5 k5
  have B5 := F5.binds (ps := ["_law_left", "_law_many"]) fun _ _ _ _ _ _ us hl => match us, hl with | [_, _], _ => rfl
  have F6 := fun_mk (st := topS 19) l6 b6 k6
  have B6 := F6.binds (ps := []) fun _ _ _ _ _ _ us hl => match us, hl with | [], _ => rfl
  have F7 := fun_mk (st := topS 24) l7 b7 k7
  have B7 := F7.binds (ps := ["_law_shape_here"]) fun _ _ _ _ _ _ us hl => match us, hl with | [_], _ => rfl
  have F8 := fun_mk (st := topS 31) l8 b8 k8
  have B8 := F8.binds (ps := ["_law_told", "_law_row"]) fun _ _ _ _ _ _ us hl => match us, hl with | [_, _], _ => rfl
  have F9 := fun_mk (st := topS 9) l9 b9 k9
  have B9 := F9.binds (ps := ["plan", "ends", "more"]) fun _ _ _ _ _ _ us hl => match us, hl with | [_, _, _], _ => rfl
  have F10 := fun_mk (st := topS 20) l10 b10 k10
  have B10 := F10.binds (ps := ["_law_left"]) fun _ _ _ _ _ _ us hl => match us, hl with | [_], _ => rfl
  have F11 := fun_mk (st := topS 21) l11 b11 k11
  have B11 := F11.binds (ps := ["_law_left", "_law_tongue_here"]) fun _ _ _ _ _ _ us hl => match us, hl with | [_, _], _ => rfl
  have F12 := fun_mk (st := topS 29) l12 b12 k12
  have B12 := F12.binds (ps := ["_law_left", "_law_told"]) fun _ _ _ _ _ _ us hl => match us, hl with | [_, _], _ => rfl
  have F13 := fun_mk (st := topS 30) l13 b13 k13
  have B13 := F13.binds (ps := ["_law_left", "_law_row", "_law_many"]) fun _ _ _ _ _ _ us hl => match us, hl with | [_, _, _], _ => rfl
  have F14 := fun_mk (st := topS 22) l14 b14 k14
  have B14 := F14.binds (ps := ["_law_shape_here"]) fun _ _ _ _ _ _ us hl => match us, hl with | [_], _ => rfl
  have F15 := fun_mk (st := topS 5) l15 b15 k15
  have B15 := F15.binds (ps := ["shape"]) fun _ _ _ _ _ _ us hl => match us, hl with | [_], _ => rfl
  have F16 := fun_mk (st := topS 10) l16 b16 k16
  have B16 := F16.binds (ps := ["plan", "parts"]) fun _ _ _ _ _ _ us hl => match us, hl with | [_, _], _ => rfl
  have F17 := fun_mk (st := topS 11) l17 b17 k17
  have B17 := F17.binds (ps := ["plan", "parts"]) fun _ _ _ _ _ _ us hl => match us, hl with | [_, _], _ => rfl
  have F18 := fun_mk (st := topS 12) l18 b18 k18
  have B18 := F18.binds (ps := ["plan", "part"]) fun _ _ _ _ _ _ us hl => match us, hl with | [_, _], _ => rfl
  have F19 := fun_mk (st := topS 13) l19 b19 k19
  have B19 := F19.binds (ps := ["plan", "part", "low", "high"]) fun _ _ _ _ _ _ us hl => match us, hl with | [_, _, _, _], _ => rfl
  have F20 := fun_mk (st := topS 14) l20 b20 k20
  have B20 := F20.binds (ps := ["plan", "shape"]) fun _ _ _ _ _ _ us hl => match us, hl with | [_, _], _ => rfl
  have F21 := fun_mk (st := topS 15) l21 b21 k21
  have B21 := F21.binds (ps := ["shape"]) fun _ _ _ _ _ _ us hl => match us, hl with | [_], _ => rfl
  have F22 := fun_mk (st := topS 23) l22 b22 k22
  have B22 := F22.binds (ps := ["_law_left", "_law_tongue_here", "_law_deep", "_law_purse", "_law_room"]) fun _ _ _ _ _ _ us hl => match us, hl with | [_, _, _, _, _], _ => rfl
  have F23 := fun_mk (st := topS 25) l23 b23 k23
  have B23 := F23.binds (ps := ["_law_shape_here", "_law_at", "_law_row", "_law_k"]) fun _ _ _ _ _ _ us hl => match us, hl with | [_, _, _, _], _ => rfl
  have F24 := fun_mk (st := topS 26) l24 b24 k24
  have B24 := F24.binds (ps := ["_law_part", "_law_at", "_law_row", "_law_here"]) fun _ _ _ _ _ _ us hl => match us, hl with | [_, _, _, _], _ => rfl
  have F25 := fun_mk (st := topS 27) l25 b25 k25
  have B25 := F25.binds (ps := ["_law_part", "_law_at", "_law_row", "_law_k"]) fun _ _ _ _ _ _ us hl => match us, hl with | [_, _, _, _], _ => rfl
  have F26 := fun_mk (st := topS 28) l26 b26 k26
  have B26 := F26.binds (ps := ["_law_left", "_law_shape_here", "_law_at"]) fun _ _ _ _ _ _ us hl => match us, hl with | [_, _, _], _ => rfl
  have F27 := fun_mk (st := topS 32) l27 b27 k27
  have B27 := F27.binds (ps := ["_law_script"]) fun _ _ _ _ _ _ us hl => match us, hl with | [_], _ => rfl
  obtain ⟨cl, e_Plan, e_TooHeavy⟩ : ∃ cl : Str → Addr, cl "Plan" = c_Plan ∧ cl "TooHeavy" = c_TooHeavy := ⟨fun s => if s = "Plan" then c_Plan else (if s = "TooHeavy" then c_TooHeavy else (0)), if_pos rfl, (if_neg (by decide)).trans (if_pos rfl)⟩
  subst e_Plan
  subst e_TooHeavy
  have ec_TooHeavy : ExcC K (cl "TooHeavy") := ⟨cg_TooHeavy, ch_TooHeavy, cb_TooHeavy, cd_TooHeavy, cc_TooHeavy, cn, cx, cm_TooHeavy⟩
  exact ⟨PySem.W.fnOf "law" "law" (defArgs (topS 32)) (defBody (topS 32)) (defScope (topS 32)) .none kV27 dc27 pm27 an27 cd27 ct27, fun s v => .of_eq rfl, fun base _ _ => 
    law_ok (G := ⟨K, cl⟩) (all_ok (P := l.prog) (w := w) (base := base) (K := K) (mg := mg) cl (PySem.W.mg_none_of X Gn z_abs) (PySem.W.mg_none_of X Gn z_enumerate) (PySem.W.mg_none_of X Gn z_int) (PySem.W.mg_none_of X Gn z_len) (PySem.W.mg_none_of X Gn z_max) (PySem.W.mg_none_of X Gn z_range) (PySem.W.mg_none_of X Gn z_set) (PySem.W.mg_none_of X Gn z_sorted) (PySem.W.mg_none_of X Gn z_sum) (PySem.W.mg_none_of X Gn z_tuple) (glI_of X Gn g_MOST_WEIGHT (by decide +kernel)) ⟨PySem.W.mg_of X Gn ca_TooHeavy, cq_TooHeavy, ck_TooHeavy, cb_TooHeavy, ct_TooHeavy, ec_TooHeavy⟩ ⟨pg_Plan, hq_Plan, po_Plan, sa_Plan⟩ n_Plan_marks n_Plan_nexts ⟨_, _, F0, PySem.W.mg_of X Gn a0, B0⟩ ⟨_, _, F1, ⟨mk_Plan, a1, s1, kq_Plan⟩, PySem.W.mg_of X Gn ca_Plan, B1⟩ ⟨_, _, F2, ⟨pg_Plan, hq_Plan, po_Plan, sa_Plan⟩, ⟨a2, s2, k2⟩, B2⟩ ⟨_, _, F3, ⟨pg_Plan, hq_Plan, po_Plan, sa_Plan⟩, ⟨a3, s3, k3⟩, B3⟩ ⟨_, _, F4, PySem.W.mg_of X Gn a4, B4⟩ ⟨_, _, F5, PySem.W.mg_of X Gn a5, B5⟩ ⟨_, _, F6, PySem.W.mg_of X Gn a6, B6⟩ ⟨_, _, F7, PySem.W.mg_of X Gn a7, B7⟩ ⟨_, _, F8, PySem.W.mg_of X Gn a8, B8⟩ ⟨_, _, F9, PySem.W.mg_of X Gn a9, B9⟩ ⟨_, _, F10, PySem.W.mg_of X Gn a10, B10⟩ ⟨_, _, F11, PySem.W.mg_of X Gn a11, B11⟩ ⟨_, _, F12, PySem.W.mg_of X Gn a12, B12⟩ ⟨_, _, F13, PySem.W.mg_of X Gn a13, B13⟩ ⟨_, _, F14, PySem.W.mg_of X Gn a14, B14⟩ ⟨_, _, F15, PySem.W.mg_of X Gn a15, B15⟩ ⟨_, _, F16, PySem.W.mg_of X Gn a16, B16⟩ ⟨_, _, F17, PySem.W.mg_of X Gn a17, B17⟩ ⟨_, _, F18, PySem.W.mg_of X Gn a18, B18⟩ ⟨_, _, F19, PySem.W.mg_of X Gn a19, B19⟩ ⟨_, _, F20, PySem.W.mg_of X Gn a20, B20⟩ ⟨_, _, F21, PySem.W.mg_of X Gn a21, B21⟩ ⟨_, _, F22, PySem.W.mg_of X Gn a22, B22⟩ ⟨_, _, F23, PySem.W.mg_of X Gn a23, B23⟩ ⟨_, _, F24, PySem.W.mg_of X Gn a24, B24⟩ ⟨_, _, F25, PySem.W.mg_of X Gn a25, B25⟩ ⟨_, _, F26, PySem.W.mg_of X Gn a26, B26⟩ F27) law_true⟩
end NR
open PySem PySem.W PyProof.Rows
set_option maxHeartbeats 0 in
theorem PySem.Challenge.cw_nearreach_k12_whole_courses_and_spreads_holds : PySem.Challenge.rw_nearreach_k12_whole_courses_and_spreads.Holds := by
  w_on; o_law; k_head; (case hw => w_witness2)
  k_fill
  refine L2.walk_of (l := PySem.Challenge.rw_nearreach_k12_whole_courses_and_spreads) (n := 63) (k := 49) (x := "_law_script") (CX := fun w => L2.CX (PySem.Challenge.rw_nearreach_k12_whole_courses_and_spreads).prog w) (sp := fun w => NR.spLaw ⟨_, fun _ => 0⟩ NR.m_law) rfl (by decide) rfl ⟨rfl, by decide, by decide⟩ (fun w h Y => PySem.W.kIn_of Y) ?F (fun _ H a ns hl ho hS => ⟨a, ns, rfl, hl, ho, hS, fun _ => rfl⟩) (fun w H s e s' hx => NR.cx_no hx)
  case F =>
    intro w mg fa h KX G hmg
    refine' NR.all_mk KX G hmg ?z_abs ?z_enumerate ?z_int ?z_len ?z_max ?z_range ?z_set ?z_sorted ?z_sum ?z_tuple ?g_MOST_WEIGHT ?ca_Plan ?ca_TooHeavy ?cq_TooHeavy ?ck_TooHeavy ?cb_TooHeavy ?ct_TooHeavy ?cg_TooHeavy ?ch_TooHeavy ?cd_TooHeavy ?cc_TooHeavy ?cm_TooHeavy ?cn ?cx ?pg_Plan ?hq_Plan ?po_Plan ?sa_Plan ?mk_Plan ?kq_Plan ?n_Plan_marks ?n_Plan_nexts ?a0 ?l0 ?b0 ?k0 ?a1 ?l1 ?b1 ?k1 ?s1 ?a2 ?l2 ?b2 ?k2 ?s2 ?a3 ?l3 ?b3 ?k3 ?s3 ?a4 ?l4 ?b4 ?k4 ?a5 ?l5 ?b5 ?k5 ?a6 ?l6 ?b6 ?k6 ?a7 ?l7 ?b7 ?k7 ?a8 ?l8 ?b8 ?k8 ?a9 ?l9 ?b9 ?k9 ?a10 ?l10 ?b10 ?k10 ?a11 ?l11 ?b11 ?k11 ?a12 ?l12 ?b12 ?k12 ?a13 ?l13 ?b13 ?k13 ?a14 ?l14 ?b14 ?k14 ?a15 ?l15 ?b15 ?k15 ?a16 ?l16 ?b16 ?k16 ?a17 ?l17 ?b17 ?k17 ?a18 ?l18 ?b18 ?k18 ?a19 ?l19 ?b19 ?k19 ?a20 ?l20 ?b20 ?k20 ?a21 ?l21 ?b21 ?k21 ?a22 ?l22 ?b22 ?k22 ?a23 ?l23 ?b23 ?k23 ?a24 ?l24 ?b24 ?k24 ?a25 ?l25 ?b25 ?k25 ?a26 ?l26 ?b26 ?k26 ?a27 ?l27 ?b27 ?k27
    (case z_abs => k_is)
    (case z_enumerate => k_is)
    (case z_int => k_is)
    (case z_len => k_is)
    (case z_max => k_is)
    (case z_range => k_is)
    (case z_set => k_is)
    (case z_sorted => k_is)
    (case z_sum => k_is)
    (case z_tuple => k_is)
    (case g_MOST_WEIGHT => exact ⟨_, by k_is⟩)
    (case ca_Plan => k_is)
    (case ca_TooHeavy => k_is)
    (case cq_TooHeavy => k_exc)
    (case ck_TooHeavy => k_is)
    (case cb_TooHeavy => k_is)
    (case ct_TooHeavy => k_is)
    (case cg_TooHeavy => k_is)
    (case ch_TooHeavy => k_is)
    (case cd_TooHeavy => k_is)
    (case cc_TooHeavy => k_is)
    (case cm_TooHeavy => k_is)
    (case cn => k_is)
    (case cx => k_is)
    (case pg_Plan => k_is)
    (case hq_Plan => k_is)
    (case po_Plan => k_is)
    (case sa_Plan => k_is)
    (case mk_Plan => k_is)
    (case kq_Plan => k_is)
    (case n_Plan_marks => k_is)
    (case n_Plan_nexts => k_is)
    (case a0 => k_is)
    (case l0 => k_is)
    (case b0 => k_is)
    (case k0 => k_is)
    (case a1 => k_is)
    (case l1 => k_is)
    (case b1 => k_is)
    (case k1 => k_is)
    (case s1 => k_is)
    (case a2 => k_is)
    (case l2 => k_is)
    (case b2 => k_is)
    (case k2 => k_is)
    (case s2 => k_is)
    (case a3 => k_is)
    (case l3 => k_is)
    (case b3 => k_is)
    (case k3 => k_is)
    (case s3 => k_is)
    (case a4 => k_is)
    (case l4 => k_is)
    (case b4 => k_is)
    (case k4 => k_is)
    (case a5 => k_is)
    (case l5 => k_is)
    (case b5 => k_is)
    (case k5 => k_is)
    (case a6 => k_is)
    (case l6 => k_is)
    (case b6 => k_is)
    (case k6 => k_is)
    (case a7 => k_is)
    (case l7 => k_is)
    (case b7 => k_is)
    (case k7 => k_is)
    (case a8 => k_is)
    (case l8 => k_is)
    (case b8 => k_is)
    (case k8 => k_is)
    (case a9 => k_is)
    (case l9 => k_is)
    (case b9 => k_is)
    (case k9 => k_is)
    (case a10 => k_is)
    (case l10 => k_is)
    (case b10 => k_is)
    (case k10 => k_is)
    (case a11 => k_is)
    (case l11 => k_is)
    (case b11 => k_is)
    (case k11 => k_is)
    (case a12 => k_is)
    (case l12 => k_is)
    (case b12 => k_is)
    (case k12 => k_is)
    (case a13 => k_is)
    (case l13 => k_is)
    (case b13 => k_is)
    (case k13 => k_is)
    (case a14 => k_is)
    (case l14 => k_is)
    (case b14 => k_is)
    (case k14 => k_is)
    (case a15 => k_is)
    (case l15 => k_is)
    (case b15 => k_is)
    (case k15 => k_is)
    (case a16 => k_is)
    (case l16 => k_is)
    (case b16 => k_is)
    (case k16 => k_is)
    (case a17 => k_is)
    (case l17 => k_is)
    (case b17 => k_is)
    (case k17 => k_is)
    (case a18 => k_is)
    (case l18 => k_is)
    (case b18 => k_is)
    (case k18 => k_is)
    (case a19 => k_is)
    (case l19 => k_is)
    (case b19 => k_is)
    (case k19 => k_is)
    (case a20 => k_is)
    (case l20 => k_is)
    (case b20 => k_is)
    (case k20 => k_is)
    (case a21 => k_is)
    (case l21 => k_is)
    (case b21 => k_is)
    (case k21 => k_is)
    (case a22 => k_is)
    (case l22 => k_is)
    (case b22 => k_is)
    (case k22 => k_is)
    (case a23 => k_is)
    (case l23 => k_is)
    (case b23 => k_is)
    (case k23 => k_is)
    (case a24 => k_is)
    (case l24 => k_is)
    (case b24 => k_is)
    (case k24 => k_is)
    (case a25 => k_is)
    (case l25 => k_is)
    (case b25 => k_is)
    (case k25 => k_is)
    (case a26 => k_is)
    (case l26 => k_is)
    (case b26 => k_is)
    (case k26 => k_is)
    (case a27 => k_is)
    (case l27 => k_is)
    (case b27 => k_is)
    (case k27 => k_is)
