import PyProof.Rows.All
import Wide.All
import OpenK.AllK
import Wide.FinOn
import HandS.ForMost
import HandS.ForExc
import HandS.Wide
import HandS.IsInst
import HandS.TupAny
import HandS.TupMul
import HandS.Style
import PyProof.StrOps2
import KE.DataEq
import HandS.NoneIn
import PyProof.ListStr
import PyProof.TupleOfStr
import HandS.Replace
import HandS.ExcIs
import HandS.SortInts
import HandS.WideMore
import KE.GoesNew
import KE.GoesEnumKw
import KE.DataCmp
import HandS.StrMore
import HandS.Deep
import PyProof.StrLawsLast
import HandS.RevRange
import PyProof.Rows.SetFrom
import PyProof.WalksMore
import PyProof.WalkInts
import PyProof.SeqI3
import PyProof.Rows.CallKwBuiltin
import PySem.Challenge.RW_nearreach_k80_books_written
set_option Elab.async false
set_option linter.all false
set_option maxRecDepth 100000
/-! The core: values as trees, mutable cells, what a reading does as a function. -/
namespace NR
open PySem PySem.Spec PyProof.Rows L2

abbrev DKey := Sum Int (List Nat)
/-- a value: a tree, or the number of a mutable cell -/
inductive D where
  | non | bl (b : Bool) | int (i : Int) | str (s : List Nat) | tup (l : List D) | ref (n : Nat) | exc (a : Nat)
  /-- a list, a dict that is never written any more -/
  | fl (l : List D) | fd (ks : List (Sum Int (List Nat))) (l : List D)
/-- a mutable cell -/
inductive Cell where
  | lst (xs : List D)
  | frz (xs : List D)
  | dk (kvs : List (DKey × D))
  | dt (kvs : List (List DKey × D))
  | ins (c : Str) (fs : List (Str × D))
abbrev IH := List Cell
abbrev EV := List (Option D)
/-- the written part, the classes by their names -/
structure Cf where
  K : PySem.W.Frag
  C : Str → Addr

def strV (s : List Nat) : Str := ⟨s.toArray⟩
def keyV : DKey → Key
  | .inl i => .inl i
  | .inr s => .inr (strV s)
theorem strV_inj {a b : List Nat} (h : strV a = strV b) : a = b := by
  have := congrArg (fun s : Str => s.cps.toList) h
  simpa [strV] using this
theorem strV_toList (s : Str) : strV s.cps.toList = s := by
  cases s; simp [strV]
theorem strV_length (s : List Nat) : (strV s).length = s.length := by
  show (strV s).cps.size = _
  simp [strV]

/-- a list that is never written -/
def FrzL (K : PySem.W.Frag) (H : Hp) (a : Addr) (xs : List V) : Prop :=
  (∃ o, H a = some (.frz o (.lst xs))) ∨
    ∃ (o : Obj) (its : Array Value) (n : Nat), K.lookup a = some o ∧ o.cls = .type "list" ∧ o.dict = none ∧ o.data = .seq its n ∧ its.size ≤ sizeLine ∧ Vals xs its.toList
/-- a list that is locked -/
def FrzM (H : Hp) (a : Addr) (xs : List V) : Prop := ∃ o, H a = some (.frz o (.lst xs))
/-- a dict that is never written -/
def FrzD (H : Hp) (a : Addr) (ws : List (Key × V)) : Prop := ∃ o, H a = some (.frz o (.dK ws))

/-- a tuple that stands in the heap -/
def TpT (H : Hp) (a : Addr) (vs : List V) : Prop := H a = some (.tup vs)

mutual
def Den (G : Cf) (et : List Addr) (H : Hp) : D → V → Prop
  | .non, v => v = .non
  | .bl b, v => v = .bl b
  | .int i, v => v = .int i
  | .str s, v => v = .str (strV s)
  | .tup l, v => ∃ a vs, v = .ref a ∧ TpT H a vs ∧ DenL G et H l vs
  | .ref n, v => ∃ a, et[n]? = some a ∧ v = .ref a
  | .exc a, v => v = .ref a
  | .fl l, v => ∃ a vs, v = .ref a ∧ FrzM H a vs ∧ DenL G et H l vs
  | .fd ks l, v => ∃ a ws, v = .ref a ∧ FrzD H a ws ∧ ws.map (·.1) = ks.map keyV ∧ DenL G et H l (ws.map (·.2))
def DenL (G : Cf) (et : List Addr) (H : Hp) : List D → List V → Prop
  | [], vs => vs = []
  | d :: ds, vs => ∃ v ws, vs = v :: ws ∧ Den G et H d v ∧ DenL G et H ds ws
end

mutual
def D.lo (n : Nat) : D → Bool
  | .tup l => D.loL n l
  | .fl l => D.loL n l
  | .fd _ l => D.loL n l
  | .ref m => decide (m < n)
  | _ => true
def D.loL (n : Nat) : List D → Bool
  | [] => true
  | d :: ds => D.lo n d && D.loL n ds
end

/-- what never changes stays -/
def Ext (H H' : Hp) : Prop := ∀ a o, H a = some o → ¬ Mut (some o) → H' a = some o
theorem Ext.refl (H : Hp) : Ext H H := fun _ _ h _ => h
theorem Ext.trans {H H1 H2 : Hp} (a : Ext H H1) (b : Ext H1 H2) : Ext H H2 := fun x o h m => b x o (a x o h m) m
theorem Ext.new {H : Hp} {p : Addr} {o : HO} (h : H p = none) : Ext H (upd H p o) := fun a u e _ => by
  rw [upd_ne (ne_of_none e h)]
  exact e
theorem Ext.mut {H : Hp} {p : Addr} {o u : HO} (h : H p = some u) (m : Mut (some u)) : Ext H (upd H p o) := fun a w e nm => by
  have : a ≠ p := fun z => by
    subst z
    rw [h] at e
    cases e
    exact nm m
  rw [upd_ne this]
  exact e
theorem Ext.sqT {K : PySem.W.Frag} {H H' : Hp} {a : Addr} {vs : List V} (e : Ext H H') (h : SqT K H a vs) : SqT K H' a vs := by
  rcases h with (h | ⟨o, h⟩) | h
  · exact .inl (.inl (e _ _ h (fun z => z)))
  · exact .inl (.inr ⟨o, e _ _ h (fun z => z)⟩)
  · exact .inr h

theorem TpT.ext {H H' : Hp} {a : Addr} {vs : List V} (e : Ext H H') (h : TpT H a vs) : TpT H' a vs := e _ _ h (fun z => z)
theorem TpT.sq {K : PySem.W.Frag} {H : Hp} {a : Addr} {vs : List V} (h : TpT H a vs) : SqT K H a vs := .inl (.inl h)
instance {K : PySem.W.Frag} {H : Hp} {a : Addr} {vs : List V} : Coe (TpT H a vs) (SqT K H a vs) := ⟨TpT.sq⟩
theorem FrzL.sq {K : PySem.W.Frag} {H : Hp} {a : Addr} {xs : List V} (h : FrzL K H a xs) : SqL K H a xs := by
  rcases h with ⟨o, h⟩ | h
  · exact .inl (.inr ⟨o, h⟩)
  · exact .inr h
theorem FrzL.ext {K : PySem.W.Frag} {H H' : Hp} {a : Addr} {xs : List V} (e : Ext H H') (h : FrzL K H a xs) : FrzL K H' a xs := by
  rcases h with ⟨o, h⟩ | h
  · exact .inl ⟨o, e _ _ h (fun z => z)⟩
  · exact .inr h

theorem FrzM.ext {H H' : Hp} {a : Addr} {ws : List V} (e : Ext H H') (h : FrzM H a ws) : FrzM H' a ws := by
  obtain ⟨o, h⟩ := h
  exact ⟨o, e _ _ h (fun z => z)⟩
theorem FrzM.rd {H : Hp} {a : Addr} {ws : List V} (h : FrzM H a ws) : Rd H a (.lst ws) := .inr h
theorem FrzM.sq {K : PySem.W.Frag} {H : Hp} {a : Addr} {ws : List V} (h : FrzM H a ws) : SqL K H a ws := .inl (.inr h)
theorem FrzM.frz {K : PySem.W.Frag} {H : Hp} {a : Addr} {ws : List V} (h : FrzM H a ws) : FrzL K H a ws := .inl h
theorem FrzD.ext {H H' : Hp} {a : Addr} {ws : List (Key × V)} (e : Ext H H') (h : FrzD H a ws) : FrzD H' a ws := by
  obtain ⟨o, h⟩ := h
  exact ⟨o, e _ _ h (fun z => z)⟩

mutual
theorem Den.mono {G : Cf} {et et' : List Addr} {H H' : Hp} (p : et <+: et') (e : Ext H H') : ∀ {d : D} {v : V}, Den G et H d v → Den G et' H' d v
  | .non, _, h => h
  | .bl _, _, h => h
  | .int _, _, h => h
  | .str _, _, h => h
  | .exc _, _, h => h
  | .tup l, _, h => by
    simp only [Den] at h ⊢
    obtain ⟨a, vs, e1, h1, h2⟩ := h
    exact ⟨a, vs, e1, h1.ext e, DenL.mono p e h2⟩
  | .fl l, _, h => by
    simp only [Den] at h ⊢
    obtain ⟨a, vs, e1, h1, h2⟩ := h
    exact ⟨a, vs, e1, h1.ext e, DenL.mono p e h2⟩
  | .fd ks l, _, h => by
    simp only [Den] at h ⊢
    obtain ⟨a, vs, e1, h1, h2, h3⟩ := h
    exact ⟨a, vs, e1, h1.ext e, h2, DenL.mono p e h3⟩
  | .ref n, _, h => by
    simp only [Den] at h ⊢
    obtain ⟨a, h1, h2⟩ := h
    obtain ⟨t, rfl⟩ := p
    refine ⟨a, ?_, h2⟩
    rw [List.getElem?_append_left]
    · exact h1
    · exact (List.getElem?_eq_some_iff.mp h1).1
theorem DenL.mono {G : Cf} {et et' : List Addr} {H H' : Hp} (p : et <+: et') (e : Ext H H') : ∀ {ds : List D} {vs : List V}, DenL G et H ds vs → DenL G et' H' ds vs
  | [], _, h => h
  | d :: ds, _, h => by
    simp only [DenL] at h ⊢
    obtain ⟨v, ws, e1, h1, h2⟩ := h
    exact ⟨v, ws, e1, Den.mono p e h1, DenL.mono p e h2⟩
end
mutual
theorem Den.back {G : Cf} {et et' : List Addr} {H : Hp} (p : et <+: et') : ∀ {d : D} {v : V}, D.lo et.length d = true → Den G et' H d v → Den G et H d v
  | .non, _, _, h => h
  | .bl _, _, _, h => h
  | .int _, _, _, h => h
  | .str _, _, _, h => h
  | .exc _, _, _, h => h
  | .tup l, _, b, h => by
    simp only [Den] at h ⊢
    obtain ⟨a, vs, e1, h1, h2⟩ := h
    exact ⟨a, vs, e1, h1, DenL.back p (by simpa [D.lo] using b) h2⟩
  | .fl l, _, b, h => by
    simp only [Den] at h ⊢
    obtain ⟨a, vs, e1, h1, h2⟩ := h
    exact ⟨a, vs, e1, h1, DenL.back p (by simpa [D.lo] using b) h2⟩
  | .fd ks l, _, b, h => by
    simp only [Den] at h ⊢
    obtain ⟨a, vs, e1, h1, h2, h3⟩ := h
    exact ⟨a, vs, e1, h1, h2, DenL.back p (by simpa [D.lo] using b) h3⟩
  | .ref n, _, b, h => by
    simp only [Den] at h ⊢
    obtain ⟨a, h1, h2⟩ := h
    obtain ⟨t, rfl⟩ := p
    have hn : n < et.length := by simpa [D.lo] using b
    refine ⟨a, ?_, h2⟩
    rw [List.getElem?_append_left hn] at h1
    exact h1
theorem DenL.back {G : Cf} {et et' : List Addr} {H : Hp} (p : et <+: et') : ∀ {ds : List D} {vs : List V}, D.loL et.length ds = true → DenL G et' H ds vs → DenL G et H ds vs
  | [], _, _, h => h
  | d :: ds, _, b, h => by
    simp only [DenL] at h ⊢
    obtain ⟨v, ws, e1, h1, h2⟩ := h
    simp only [D.loL, Bool.and_eq_true] at b
    exact ⟨v, ws, e1, Den.back p b.1 h1, DenL.back p b.2 h2⟩
end
mutual
/-- what is denoted refers only to cells that are there -/
theorem Den.lo {G : Cf} {et : List Addr} {H : Hp} : ∀ {d : D} {v : V}, Den G et H d v → D.lo et.length d = true
  | .non, _, _ => rfl
  | .bl _, _, _ => rfl
  | .int _, _, _ => rfl
  | .str _, _, _ => rfl
  | .exc _, _, _ => rfl
  | .tup l, _, h => by
    simp only [Den] at h
    obtain ⟨a, vs, e1, h1, h2⟩ := h
    simpa [D.lo] using DenL.lo h2
  | .fl l, _, h => by
    simp only [Den] at h
    obtain ⟨a, vs, e1, h1, h2⟩ := h
    simpa [D.lo] using DenL.lo h2
  | .fd ks l, _, h => by
    simp only [Den] at h
    obtain ⟨a, vs, e1, h1, h2, h3⟩ := h
    simpa [D.lo] using DenL.lo h3
  | .ref n, _, h => by
    simp only [Den] at h
    obtain ⟨a, h1, h2⟩ := h
    simpa [D.lo] using (List.getElem?_eq_some_iff.mp h1).1
theorem DenL.lo {G : Cf} {et : List Addr} {H : Hp} : ∀ {ds : List D} {vs : List V}, DenL G et H ds vs → D.loL et.length ds = true
  | [], _, _ => by simp [D.loL]
  | d :: ds, _, h => by
    simp only [DenL] at h
    obtain ⟨v, ws, e1, h1, h2⟩ := h
    simp [D.loL, Den.lo h1, DenL.lo h2]
end

/-- the pairs of a dict, of an instance -/
def DenK {κ κ' : Type} (f : κ → κ') (G : Cf) (et : List Addr) (H : Hp) (kvs : List (κ × D)) (ws : List (κ' × V)) : Prop :=
  ws.map (·.1) = kvs.map (fun p => f p.1) ∧ DenL G et H (kvs.map (·.2)) (ws.map (·.2))
theorem DenK.mono {κ κ' : Type} {f : κ → κ'} {G : Cf} {et et' : List Addr} {H H' : Hp} (p : et <+: et') (e : Ext H H') {kvs : List (κ × D)} {ws : List (κ' × V)} (h : DenK f G et H kvs ws) : DenK f G et' H' kvs ws := ⟨h.1, h.2.mono p e⟩

def CellOk (G : Cf) (et : List Addr) (H : Hp) (a : Addr) : Cell → Prop
  | .lst xs => ∃ vs, H a = some (.lst vs) ∧ DenL G et H xs vs
  | .frz xs => ∃ vs, FrzL G.K H a vs ∧ DenL G et H xs vs
  | .dk kvs => ∃ ws, H a = some (.dK ws) ∧ DenK keyV G et H kvs ws
  | .dt kvs => ∃ ws, H a = some (.dT ws) ∧ DenK (List.map keyV) G et H kvs ws
  | .ins c fs => ∃ dx ws, H a = some (.ins (G.C c) dx ws) ∧ DenK id G et H fs ws
def Cell.lo (n : Nat) : Cell → Bool
  | .lst xs => D.loL n xs
  | .frz xs => D.loL n xs
  | .dk kvs => D.loL n (kvs.map (·.2))
  | .dt kvs => D.loL n (kvs.map (·.2))
  | .ins _ fs => D.loL n (fs.map (·.2))
def Cell.isFrz : Cell → Bool
  | .frz _ => true
  | _ => false
structure HRel (G : Cf) (et : List Addr) (h : IH) (H : Hp) : Prop where
  len : et.length = h.length
  nd : ∀ (n m : Nat) (c c' : Cell) (a : Addr), h[n]? = some c → h[m]? = some c' → et[n]? = some a → et[m]? = some a → c.isFrz = false → c'.isFrz = false → n = m
  cell : ∀ (n : Nat) (c : Cell) (a : Addr), h[n]? = some c → et[n]? = some a → CellOk G et H a c

theorem CellOk.mono {G : Cf} {et et' : List Addr} {H H' : Hp} {a : Addr} (p : et <+: et') (e : Ext H H') (he : ∀ o, H a = some o → H' a = some o) {c : Cell} (h : CellOk G et H a c) : CellOk G et' H' a c := by
  cases c with
  | lst xs => obtain ⟨vs, h1, h2⟩ := h; exact ⟨vs, he _ h1, h2.mono p e⟩
  | frz xs => obtain ⟨vs, h1, h2⟩ := h; exact ⟨vs, h1.ext e, h2.mono p e⟩
  | dk kvs => obtain ⟨vs, h1, h2⟩ := h; exact ⟨vs, he _ h1, h2.mono p e⟩
  | dt kvs => obtain ⟨vs, h1, h2⟩ := h; exact ⟨vs, he _ h1, h2.mono p e⟩
  | ins c fs => obtain ⟨dx, vs, h1, h2⟩ := h; exact ⟨dx, vs, he _ h1, h2.mono p e⟩
theorem CellOk.back {G : Cf} {et et' : List Addr} {H : Hp} {a : Addr} (p : et <+: et') {c : Cell} (b : Cell.lo et.length c = true) (h : CellOk G et' H a c) : CellOk G et H a c := by
  cases c with
  | lst xs => obtain ⟨vs, h1, h2⟩ := h; exact ⟨vs, h1, h2.back p b⟩
  | frz xs => obtain ⟨vs, h1, h2⟩ := h; exact ⟨vs, h1, h2.back p b⟩
  | dk kvs => obtain ⟨vs, h1, h2⟩ := h; exact ⟨vs, h1, h2.1, h2.2.back p b⟩
  | dt kvs => obtain ⟨vs, h1, h2⟩ := h; exact ⟨vs, h1, h2.1, h2.2.back p b⟩
  | ins c fs => obtain ⟨dx, vs, h1, h2⟩ := h; exact ⟨dx, vs, h1, h2.1, h2.2.back p b⟩
theorem CellOk.lo {G : Cf} {et : List Addr} {H : Hp} {a : Addr} {c : Cell} (h : CellOk G et H a c) : Cell.lo et.length c = true := by
  cases c with
  | lst xs => obtain ⟨vs, h1, h2⟩ := h; exact h2.lo
  | frz xs => obtain ⟨vs, h1, h2⟩ := h; exact h2.lo
  | dk kvs => obtain ⟨vs, h1, h2⟩ := h; exact h2.2.lo
  | dt kvs => obtain ⟨vs, h1, h2⟩ := h; exact h2.2.lo
  | ins c fs => obtain ⟨dx, vs, h1, h2⟩ := h; exact h2.2.lo
/-- a cell stands in the heap, or is read only -/
theorem CellOk.some_or {G : Cf} {et : List Addr} {H : Hp} {a : Addr} {c : Cell} (h : CellOk G et H a c) : (∃ o, H a = some o) ∨ ∃ o, G.K.lookup a = some o := by
  cases c with
  | lst xs => obtain ⟨vs, h1, _⟩ := h; exact .inl ⟨_, h1⟩
  | frz xs =>
    obtain ⟨vs, ⟨o, h1⟩ | ⟨o, _, _, h1, _⟩, _⟩ := h
    · exact .inl ⟨_, h1⟩
    · exact .inr ⟨_, h1⟩
  | dk kvs => obtain ⟨vs, h1, _⟩ := h; exact .inl ⟨_, h1⟩
  | dt kvs => obtain ⟨vs, h1, _⟩ := h; exact .inl ⟨_, h1⟩
  | ins c fs => obtain ⟨dx, vs, h1, _⟩ := h; exact .inl ⟨_, h1⟩

section
variable {G : Cf} {et et' : List Addr} {H H' : Hp} {h h' : IH}
theorem HRel.addr (R : HRel G et h H) {n : Nat} {c : Cell} (e : h[n]? = some c) : ∃ a, et[n]? = some a := by
  have : n < h.length := (List.getElem?_eq_some_iff.mp e).1
  exact ⟨et[n]'(by rw [R.len]; exact this), List.getElem?_eq_getElem _⟩
theorem HRel.cellAt (R : HRel G et h H) {n : Nat} {a : Addr} (e : et[n]? = some a) : ∃ c, h[n]? = some c ∧ CellOk G et H a c := by
  have l : n < h.length := by rw [← R.len]; exact (List.getElem?_eq_some_iff.mp e).1
  exact ⟨h[n], List.getElem?_eq_getElem l, R.cell n _ a (List.getElem?_eq_getElem l) e⟩
theorem CellOk.there {a : Addr} {c : Cell} (f : c.isFrz = false) (x : CellOk G et H a c) : ∃ o, H a = some o := by
  cases c with
  | lst xs => obtain ⟨vs, h1, _⟩ := x; exact ⟨_, h1⟩
  | frz xs => cases f
  | dk kvs => obtain ⟨vs, h1, _⟩ := x; exact ⟨_, h1⟩
  | dt kvs => obtain ⟨vs, h1, _⟩ := x; exact ⟨_, h1⟩
  | ins c fs => obtain ⟨dx, vs, h1, _⟩ := x; exact ⟨_, h1⟩
/-- nothing of the cells is touched -/
theorem HRel.keep (R : HRel G et h H) (e : Ext H H') (k : ∀ (n : Nat) (a : Addr) (o : HO), et[n]? = some a → H a = some o → H' a = some o) : HRel G et h H' :=
  ⟨R.len, R.nd, fun n c a h1 h2 => (R.cell n c a h1 h2).mono List.prefix_rfl e (fun o => k n a o h2)⟩
/-- a new immutable object -/
theorem HRel.new (R : HRel G et h H) {p : Addr} {o : HO} (hp : H p = none) : HRel G et h (upd H p o) :=
  R.keep (Ext.new hp) fun n a u _ e => by rw [upd_ne (ne_of_none e hp)]; exact e
/-- a new cell -/
theorem HRel.push (R : HRel G et h H) {p : Addr} {o : HO} {c : Cell} (hp : H p = none) (hc : CellOk G (et ++ [p]) (upd H p o) p c) : HRel G (et ++ [p]) (h ++ [c]) (upd H p o) := by
  have pf : et <+: et ++ [p] := List.prefix_append _ _
  have old : ∀ {n : Nat} {c' : Cell}, (h ++ [c])[n]? = some c' → (n < h.length ∧ h[n]? = some c') ∨ (n = h.length ∧ c' = c) := fun {n c'} e => by
    by_cases hn : n < h.length
    · rw [List.getElem?_append_left hn] at e
      exact .inl ⟨hn, e⟩
    · rw [List.getElem?_append_right (by omega)] at e
      have : n - h.length = 0 := by
        have := (List.getElem?_eq_some_iff.mp e).1
        simp at this
        omega
      rw [this] at e
      simp at e
      exact .inr ⟨by omega, e.symm⟩
  have oldA : ∀ {n : Nat} {a : Addr}, n < h.length → (et ++ [p])[n]? = some a → et[n]? = some a := fun {n a} hn e => by
    rw [List.getElem?_append_left (by rw [R.len]; exact hn)] at e
    exact e
  have newA : ∀ {a : Addr}, (et ++ [p])[h.length]? = some a → a = p := fun {a} e => by
    rw [List.getElem?_append_right (by rw [R.len]; exact Nat.le_refl _), R.len, Nat.sub_self] at e
    simp at e
    exact e.symm
  refine ⟨by simp [R.len], fun n m c1 c2 a h1 h2 h3 h4 f1 f2 => ?_, fun n c1 a h1 h2 => ?_⟩
  · rcases old h1 with ⟨l1, g1⟩ | ⟨l1, rfl⟩
    · rcases old h2 with ⟨l2, g2⟩ | ⟨l2, rfl⟩
      · exact R.nd n m c1 c2 a g1 g2 (oldA l1 h3) (oldA l2 h4) f1 f2
      · rw [l2] at h4
        have ea := newA h4
        obtain ⟨o', ho⟩ := (R.cell n c1 a g1 (oldA l1 h3)).there f1
        rw [ea, hp] at ho
        cases ho
    · rcases old h2 with ⟨l2, g2⟩ | ⟨l2, rfl⟩
      · rw [l1] at h3
        have ea := newA h3
        obtain ⟨o', ho⟩ := (R.cell m c2 a g2 (oldA l2 h4)).there f2
        rw [ea, hp] at ho
        cases ho
      · rw [l1, l2]
  · rcases old h1 with ⟨l1, g1⟩ | ⟨l1, rfl⟩
    · refine (R.cell n c1 a g1 (oldA l1 h2)).mono pf (Ext.new hp) fun u e => ?_
      rw [upd_ne (ne_of_none e hp)]
      exact e
    · rw [l1] at h2
      rw [newA h2]
      exact hc
/-- a cell is written -/
theorem HRel.set (R : HRel G et h H) {n : Nat} {a : Addr} {o u : HO} {c c' : Cell} (hn : h[n]? = some c) (ha : et[n]? = some a) (f : c.isFrz = false) (ho : H a = some o) (mu : Mut (some o))
    (hc : CellOk G et (upd H a u) a c') : HRel G et (h.set n c') (upd H a u) := by
  have ex : Ext H (upd H a u) := Ext.mut ho mu
  have ln : n < h.length := (List.getElem?_eq_some_iff.mp hn).1
  refine ⟨by simp [R.len], fun i j c1 c2 b h1 h2 h3 h4 f1 f2 => ?_, fun i c1 b h1 h2 => ?_⟩
  · by_cases hi : i = n
    · by_cases hj : j = n
      · rw [hi, hj]
      · rw [List.getElem?_set_ne (Ne.symm hj)] at h2
        rw [hi] at h3
        rw [ha] at h3
        cases h3
        exact hi.trans (R.nd n j c c2 a hn h2 ha h4 f f2)
    · rw [List.getElem?_set_ne (Ne.symm hi)] at h1
      by_cases hj : j = n
      · rw [hj, ha] at h4
        cases h4
        exact (R.nd i n c1 c a h1 hn h3 ha f1 f).trans hj.symm
      · rw [List.getElem?_set_ne (Ne.symm hj)] at h2
        exact R.nd i j c1 c2 b h1 h2 h3 h4 f1 f2
  · by_cases hi : i = n
    · subst hi
      rw [ha] at h2
      cases h2
      rw [List.getElem?_set_self ln] at h1
      cases h1
      exact hc
    · rw [List.getElem?_set_ne (Ne.symm hi)] at h1
      have old := R.cell i c1 b h1 h2
      cases hf : c1.isFrz with
      | false =>
        have nb : b ≠ a := fun z => by
          subst z
          exact hi (R.nd i n c1 c b h1 hn h2 ha hf f)
        exact old.mono List.prefix_rfl ex fun w e => by rw [upd_ne nb]; exact e
      | true =>
        cases c1 with
        | frz xs =>
          obtain ⟨vs, h5, h6⟩ := old
          exact ⟨vs, h5.ext ex, h6.mono List.prefix_rfl ex⟩
        | _ => cases hf
end
end NR

set_option Elab.async false
set_option linter.all false
set_option maxRecDepth 100000
/-! What syntax does, as a function: the judgement, the rules. -/
namespace NR
open PySem PySem.Spec PyProof.Rows L2

abbrev XF := Option (List (Str × D))
/-- an outcome: a value, an exception, nothing is said -/
inductive R (A : Type) where
  | ok (a : A) (h : IH)
  | ex (c : Str) (d : XF) (h : IH)
  | no
def R.bind {A B : Type} (r : R A) (k : A → IH → R B) : R B :=
  match r with
  | .ok a h => k a h
  | .ex c d h => .ex c d h
  | .no => .no
inductive RS where
  | nx (e : EV) (h : IH) | rt (d : D) (h : IH) | bk (e : EV) (h : IH) | ct (e : EV) (h : IH)
  | ex (c : Str) (d : XF) (e : EV) (h : IH) | no
def R.bindS {A : Type} (r : R A) (env : EV) (k : A → IH → RS) : RS :=
  match r with
  | .ok a h => k a h
  | .ex c d h => .ex c d env h
  | .no => .no
abbrev ME := EV → IH → R D
abbrev MT := EV → IH → R Bool
abbrev MA := EV → IH → R (List D)
abbrev MS := EV → IH → RS
abbrev MF := List D → IH → R D

def ExOk (G : Cf) (et : List Addr) (H : Hp) (c : Str) (d : XF) (cls : Value) (dd : Option Addr) : Prop :=
  cls = .ref (G.C c) ∧ match d with
    | none => dd = none
    | some fs => ∃ a ws, dd = some a ∧ H a = some (.xd ws) ∧ DenK id G et H fs ws

def Pst {A : Type} (G : Cf) (et : List Addr) (H : Hp) (r : R A) (F : List Addr → Hp → IH → A → Prop) (W : Value → Option Addr → Hp → Prop) : Prop :=
  match r with
  | .ok a h' => ∀ et' H', et <+: et' → Ext H H' → HRel G et' h' H' → F et' H' h' a
  | .ex c d h' => ∀ et' H' cls dd, et <+: et' → Ext H H' → HRel G et' h' H' → ExOk G et' H' c d cls dd → W cls dd H'
  | .no => False
section
variable {G : Cf} {et et' : List Addr} {H H' : Hp} {h h' : IH} {A B : Type}
theorem Pst.of_bind {r : R A} {k : A → IH → R B} {F : List Addr → Hp → IH → B → Prop} {W : Value → Option Addr → Hp → Prop} (x : Pst G et H (r.bind k) F W) :
    Pst G et H r (fun et1 H1 h1 a => Pst G et1 H1 (k a h1) F W) W := by
  cases r with
  | ok a h1 =>
    intro et1 H1 p e hr
    show Pst G et1 H1 (k a h1) F W
    have y : Pst G et H (k a h1) F W := x
    cases hk : k a h1 with
    | ok b h2 => rw [hk] at y; exact fun et2 H2 p2 e2 hr2 => y et2 H2 (p.trans p2) (e.trans e2) hr2
    | ex c d h2 => rw [hk] at y; exact fun et2 H2 cls dd p2 e2 hr2 => y et2 H2 cls dd (p.trans p2) (e.trans e2) hr2
    | no => rw [hk] at y; exact y
  | ex c d h1 => exact x
  | no => exact x
theorem Pst.imp {r : R A} {F F' : List Addr → Hp → IH → A → Prop} {W : Value → Option Addr → Hp → Prop} (x : Pst G et H r F W)
    (k : ∀ et' H' h' a, et <+: et' → Ext H H' → HRel G et' h' H' → F et' H' h' a → F' et' H' h' a) : Pst G et H r F' W := by
  cases r with
  | ok a h1 => exact fun et1 H1 p e hr => k et1 H1 h1 a p e hr (x et1 H1 p e hr)
  | ex c d h1 => exact x
  | no => exact x
theorem Pst.weak {r : R A} {F : List Addr → Hp → IH → A → Prop} {W : Value → Option Addr → Hp → Prop} (p : et <+: et') (e : Ext H H') (x : Pst G et H r F W) : Pst G et' H' r F W := by
  cases r with
  | ok a h1 => exact fun et1 H1 p1 e1 hr => x et1 H1 (p.trans p1) (e.trans e1) hr
  | ex c d h1 => exact fun et1 H1 cls dd p1 e1 hr => x et1 H1 cls dd (p.trans p1) (e.trans e1) hr
  | no => exact x
end

/-- the slots hold the values -/
def EnvR (G : Cf) (et : List Addr) (H : Hp) (env : EV) (σ : L2.St) : Prop :=
  env.length = σ.length ∧ ∀ (i : Nat) (d : D), env[i]? = some (some d) → ∃ v, σ[i]? = some (some v) ∧ Den G et H d v
section
variable {G : Cf} {et et' : List Addr} {H H' : Hp} {h h' : IH} {A B : Type} {env : EV} {σ : L2.St}
theorem EnvR.mono (p : et <+: et') (e : Ext H H') (x : EnvR G et H env σ) : EnvR G et' H' env σ :=
  ⟨x.1, fun i d q => let ⟨v, a, b⟩ := x.2 i d q; ⟨v, a, b.mono p e⟩⟩
theorem EnvR.set (x : EnvR G et H env σ) (i : Nat) {d : D} {v : V} (r : Den G et H d v) : EnvR G et H (env.set i (some d)) (σ.set i (some v)) := by
  refine ⟨by simp [x.1], fun j d' q => ?_⟩
  by_cases hj : j = i
  · subst hj
    by_cases hl : j < env.length
    · rw [List.getElem?_set_self hl] at q
      cases q
      exact ⟨v, by rw [List.getElem?_set_self (by rw [← x.1]; exact hl)], r⟩
    · rw [List.set_eq_of_length_le (by omega)] at q
      have := (List.getElem?_eq_some_iff.mp q).1
      exact absurd this hl
  · rw [List.getElem?_set_ne (Ne.symm hj)] at q
    obtain ⟨w, a, b⟩ := x.2 j d' q
    exact ⟨w, by rw [List.getElem?_set_ne (Ne.symm hj)]; exact a, b⟩
end

def tE (G : Cf) (W : WX) (m : ME) : TE := fun σ H Q => ∃ et env h, EnvR G et H env σ ∧ HRel G et h H ∧
  Pst G et H (m env h) (fun et' H' _ d => ∀ v, Den G et' H' d v → Q v H') (fun c d H' => W c d σ H')
def tT (G : Cf) (W : WX) (m : MT) : TT := fun σ H Q => ∃ et env h, EnvR G et H env σ ∧ HRel G et h H ∧
  Pst G et H (m env h) (fun _ H' _ b => Q b H') (fun c d H' => W c d σ H')
def tA (G : Cf) (W : WX) (m : MA) : TA := fun σ H Q => ∃ et env h, EnvR G et H env σ ∧ HRel G et h H ∧
  Pst G et H (m env h) (fun et' H' _ ds => ∀ vs, DenL G et' H' ds vs → Q vs H') (fun c d H' => W c d σ H')
def PstS (G : Cf) (et : List Addr) (H : Hp) (r : RS) (D : Ends) (W : WX) : Prop :=
  match r with
  | .nx env' h' => ∀ et' H' σ', et <+: et' → Ext H H' → HRel G et' h' H' → EnvR G et' H' env' σ' → D.nx σ' H'
  | .bk env' h' => ∀ et' H' σ', et <+: et' → Ext H H' → HRel G et' h' H' → EnvR G et' H' env' σ' → D.bk σ' H'
  | .ct env' h' => ∀ et' H' σ', et <+: et' → Ext H H' → HRel G et' h' H' → EnvR G et' H' env' σ' → D.ct σ' H'
  | .rt d h' => ∀ et' H' v, et <+: et' → Ext H H' → HRel G et' h' H' → Den G et' H' d v → D.rt v H'
  | .ex c d env' h' => ∀ et' H' σ' cls dd, et <+: et' → Ext H H' → HRel G et' h' H' → EnvR G et' H' env' σ' → ExOk G et' H' c d cls dd → W cls dd σ' H'
  | .no => False
def tS (G : Cf) (W : WX) (m : MS) : TS := fun D σ H => ∃ et env h, EnvR G et H env σ ∧ HRel G et h H ∧ PstS G et H (m env h) D W

theorem PE.imp {X : Cx} {e : Expr} {t t' : TE} (h : PE X e t) (k : ∀ σ H Q, t' σ H Q → t σ H Q) : PE X e t' := ⟨fun pins s σ H Q I x => h.run pins s σ H Q I (k σ H Q x)⟩
theorem PT.imp {X : Cx} {e : Expr} {t t' : TT} (h : PT X e t) (k : ∀ σ H Q, t' σ H Q → t σ H Q) : PT X e t' := ⟨fun pins s σ H Q I x => h.run pins s σ H Q I (k σ H Q x)⟩
theorem PW.imp {X : Cx} {e : Expr} {t t' : TT} (h : PW X e t) (k : ∀ σ H Q, t' σ H Q → t σ H Q) : PW X e t' := ⟨fun wh pins s σ H Q I x => h.run wh pins s σ H Q I (k σ H Q x)⟩
theorem PA.imp {X : Cx} {e : List Expr} {t t' : TA} (h : PA X e t) (k : ∀ σ H Q, t' σ H Q → t σ H Q) : PA X e t' := ⟨fun pos pins s σ H Q I x => h.run pos pins s σ H Q I (k σ H Q x)⟩
theorem PS.imp {X : Cx} {e : Stmt} {t t' : TS} (h : PS X e t) (k : ∀ D σ H, t' D σ H → t D σ H) : PS X e t' := ⟨fun pins s σ H D I x => h.run pins s σ H D I (k D σ H x)⟩
theorem PSs.imp {X : Cx} {e : List Stmt} {t t' : TS} (h : PSs X e t) (k : ∀ D σ H, t' D σ H → t D σ H) : PSs X e t' := ⟨fun pins s σ H D I x => h.run pins s σ H D I (k D σ H x)⟩

section
variable {G : Cf} {W : WX} {σ : L2.St} {H : Hp} {A B : Type}
/-- two in a row -/
theorem tE.bind {m : ME} {k : EV → D → IH → R D} {Q : VK} (x : tE G W (fun env h => (m env h).bind (k env)) σ H Q) :
    tE G W m σ H fun v H1 => ∃ et1 env h1 d, EnvR G et1 H1 env σ ∧ HRel G et1 h1 H1 ∧ Den G et1 H1 d v ∧ Pst G et1 H1 (k env d h1) (fun et' H' _ d => ∀ v, Den G et' H' d v → Q v H') (fun c d H' => W c d σ H') := by
  obtain ⟨et, env, h, hE, hH, hP⟩ := x
  exact ⟨et, env, h, hE, hH, (Pst.of_bind hP).imp fun et1 H1 h1 a p e hr q v hv => ⟨et1, env, h1, a, hE.mono p e, hr, hv, q⟩⟩
end

/-! ### names, constants -/
def mVar (i : Nat) : ME := fun env h => match env[i]? with
  | some (some d) => .ok d h
  | _ => .no
def mC (d : D) : ME := fun _ h => .ok d h
section
variable {X : Cx} {G : Cf} {W : WX}
theorem me_var (i : Nat) {x : Str} {pos : Pos} (hN : X.N[i]? = some x := by rfl) (hv : Vis X.env.scope x := by first | exact Or.inl rfl | exact Or.inr (Or.inl rfl) | exact Or.inr (Or.inr rfl)) (hd : (x == ("__debug__" : Str)) = false := by decide)
    (hcd : (x == ("__classdict__" : Str)) = false := by decide) : PE X (.Name x pos) (tE G W (mVar i)) :=
  PE.imp (pe_var hN hv hd hcd) fun σ H Q ⟨et, env, h, hE, hH, hP⟩ => by
    unfold mVar at hP
    split at hP
    · rename_i d hd
      obtain ⟨v, e1, r⟩ := hE.2 i d hd
      exact ⟨v, e1, hP et H List.prefix_rfl (Ext.refl H) hH v r⟩
    · exact hP.elim
theorem tE.const {d : D} {v : V} {σ : L2.St} {H : Hp} {Q : VK} (x : tE G W (mC d) σ H Q) (r : ∀ et, Den G et H d v) : Q v H := by
  obtain ⟨et, env, h, hE, hH, hP⟩ := x
  exact hP et H List.prefix_rfl (Ext.refl H) hH v (r et)
theorem me_int {i j pos} : PE X (.Constant (.int i) j pos) (tE G W (mC (.int i))) := PE.imp pe_int fun _ _ _ x => x.const (v := .int i) fun et => by simp [Den]
theorem me_bl {b j pos} : PE X (.Constant (.bool b) j pos) (tE G W (mC (.bl b))) := PE.imp pe_bl fun _ _ _ x => x.const (v := .bl b) fun et => by simp [Den]
theorem me_non {j pos} : PE X (.Constant .none j pos) (tE G W (mC .non)) := PE.imp pe_non fun _ _ _ x => x.const (v := .non) fun et => by simp [Den]
theorem me_str {x : Str} {j pos} (s : List Nat) (e : strV s = x := by decide +kernel) : PE X (.Constant (.str x) j pos) (tE G W (mC (.str s))) := PE.imp pe_str fun _ _ _ y => y.const (v := .str x) fun et => by simp [Den, e]
/-- a module's constant that is a number or a text -/
def OfC : D → Value → Prop
  | .int i, u => ∃ t, u = .int i t
  | .str s, u => ∃ t, u = .str (strV s) t
  | _, _ => False
theorem me_glob {x : Str} {u : Value} {pos : Pos} (d : D) (r : OfC d u) (hm : X.mg x = some u) (hg : Gl X x := by rfl) (hd : (x == ("__debug__" : Str)) = false := by decide) : PE X (.Name x pos) (tE G W (mC d)) := by
  cases d with
  | int i => exact PE.imp (pe_glob (v := .int i) hg hm r hd) fun _ _ _ y => y.const (v := .int i) fun et => by simp [Den]
  | str s => exact PE.imp (pe_glob (v := .str (strV s)) hg hm r hd) fun _ _ _ y => y.const (v := .str (strV s)) fun et => by simp [Den]
  | _ => exact r.elim
end

/-! ### operators by values -/
/-- f on trees is what the rule r asks -/
def OpS (G : Cf) (r : R2) (f : D → D → IH → R D) : Prop := ∀ (et : List Addr) (H : Hp) (h : IH) (x y : D) (v w : V) (W : Value → Option Addr → Hp → Prop) (Q : VK), Den G et H x v → Den G et H y w → HRel G et h H →
  Pst G et H (f x y h) (fun et' H' _ d => ∀ v, Den G et' H' d v → Q v H') W → r v w H Q
def mOp (f : D → D → IH → R D) (a b : ME) : ME := fun env h => (a env h).bind fun x h1 => (b env h1).bind fun y h2 => f x y h2
section
variable {X : Cx} {G : Cf} {W : WX} {a b e : Expr} {ma mb mc : ME} {pos : Pos} {r : R2} {f : D → D → IH → R D}
theorem tOp_of {σ : L2.St} {H : Hp} {Q : VK} (hs : OpS G r f) (x : tE G W (mOp f ma mb) σ H Q) : tOp r (tE G W ma) (tE G W mb) σ H Q := by
  obtain ⟨et, env, h, hE, hH, hP⟩ := x
  refine ⟨et, env, h, hE, hH, (Pst.of_bind hP).imp fun et1 H1 h1 x p e hr q v hv => ?_⟩
  refine ⟨et1, env, h1, hE.mono p e, hr, (Pst.of_bind q).imp fun et2 H2 h2 y p2 e2 hr2 q2 w hw => ?_⟩
  exact hs et2 H2 h2 x y v w _ Q (hv.mono p2 e2) hw hr2 q2
theorem me_op {op : Operator} (ho : OpR X (binaryOp op) r) (hs : OpS G r f) (ha : PE X a (tE G W ma)) (hb : PE X b (tE G W mb)) : PE X (.BinOp a op b pos) (tE G W (mOp f ma mb)) :=
  PE.imp (pe_op ho ha hb) fun _ _ _ x => tOp_of hs x
theorem me_cmp {op : CmpOp} (ho : OpR X (compareOp op) r) (hs : OpS G r f) (ha : PE X a (tE G W ma)) (hb : PE X b (tE G W mb)) (hm : behindInMarks op b = false := by first | exact nomark _ | rfl) : PE X (.Compare a [op] [b] pos) (tE G W (mOp f ma mb)) :=
  PE.imp (pe_cmpR ho ha hb hm) fun _ _ _ x => tOp_of hs x
end
#check @nomark
#check @pe_cmpR
#check @pt_truth
#check @pt_cmpR
end NR

set_option Elab.async false
set_option linter.all false
set_option maxRecDepth 100000
/-! Operators. -/
namespace NR
open PySem PySem.Spec PyProof.Rows L2

theorem sz {n : Nat} (h : n ≤ 10000000) : n ≤ sizeLine := by rw [sizeLine_eq]; omega
section
variable {G : Cf} {et : List Addr} {H : Hp} {v : V}
@[simp] theorem den_non : Den G et H .non v ↔ v = .non := by simp [Den]
@[simp] theorem den_bl {b : Bool} : Den G et H (.bl b) v ↔ v = .bl b := by simp [Den]
@[simp] theorem den_int {i : Int} : Den G et H (.int i) v ↔ v = .int i := by simp [Den]
@[simp] theorem den_str {s : List Nat} : Den G et H (.str s) v ↔ v = .str (strV s) := by simp [Den]
@[simp] theorem den_tup {l : List D} : Den G et H (.tup l) v ↔ ∃ a vs, v = .ref a ∧ TpT H a vs ∧ DenL G et H l vs := by simp [Den]
@[simp] theorem den_ref {n : Nat} : Den G et H (.ref n) v ↔ ∃ a, et[n]? = some a ∧ v = .ref a := by simp [Den]
@[simp] theorem den_fl {l : List D} : Den G et H (.fl l) v ↔ ∃ a vs, v = .ref a ∧ FrzM H a vs ∧ DenL G et H l vs := by simp [Den]
@[simp] theorem den_fd {ks : List DKey} {l : List D} : Den G et H (.fd ks l) v ↔ ∃ a ws, v = .ref a ∧ FrzD H a ws ∧ ws.map (·.1) = ks.map keyV ∧ DenL G et H l (ws.map (·.2)) := by simp [Den]
@[simp] theorem denL_nil {vs : List V} : DenL G et H [] vs ↔ vs = [] := by simp [DenL]
@[simp] theorem denL_cons {d : D} {ds : List D} {vs : List V} : DenL G et H (d :: ds) vs ↔ ∃ v ws, vs = v :: ws ∧ Den G et H d v ∧ DenL G et H ds ws := by simp [DenL]
theorem DenL.len : ∀ {ds : List D} {vs : List V}, DenL G et H ds vs → vs.length = ds.length
  | [], _, h => by rw [denL_nil] at h; rw [h]; rfl
  | d :: ds, _, h => by
    obtain ⟨v, ws, rfl, _, h2⟩ := denL_cons.mp h
    simp [DenL.len h2]
theorem DenL.get : ∀ {ds : List D} {vs : List V} {i : Nat} {d : D}, DenL G et H ds vs → ds[i]? = some d → ∃ v, vs[i]? = some v ∧ Den G et H d v
  | [], _, _, _, _, e => by simp at e
  | d :: ds, _, i, d', h, e => by
    obtain ⟨v, ws, rfl, h1, h2⟩ := denL_cons.mp h
    cases i with
    | zero => simp at e; subst e; exact ⟨v, by simp, h1⟩
    | succ i => obtain ⟨u, a, b⟩ := DenL.get (i := i) h2 (by simpa using e); exact ⟨u, by simpa using a, b⟩
theorem DenL.get' : ∀ {ds : List D} {vs : List V} {i : Nat} {v : V}, DenL G et H ds vs → vs[i]? = some v → ∃ d, ds[i]? = some d ∧ Den G et H d v
  | [], _, _, _, h, e => by rw [denL_nil] at h; subst h; simp at e
  | d :: ds, _, i, v', h, e => by
    obtain ⟨v, ws, rfl, h1, h2⟩ := denL_cons.mp h
    cases i with
    | zero => simp at e; subst e; exact ⟨d, by simp, h1⟩
    | succ i => obtain ⟨u, a, b⟩ := DenL.get' (i := i) h2 (by simpa using e); exact ⟨u, by simpa using a, b⟩
theorem DenL.app : ∀ {ds es : List D} {vs ws : List V}, DenL G et H ds vs → DenL G et H es ws → DenL G et H (ds ++ es) (vs ++ ws)
  | [], _, _, _, h, k => by rw [denL_nil] at h; subst h; exact k
  | d :: ds, _, _, _, h, k => by
    obtain ⟨v, ws, rfl, h1, h2⟩ := denL_cons.mp h
    exact denL_cons.mpr ⟨v, _, rfl, h1, DenL.app h2 k⟩
theorem DenL.take : ∀ (n : Nat) {ds : List D} {vs : List V}, DenL G et H ds vs → DenL G et H (ds.take n) (vs.take n)
  | 0, _, _, _ => by simp
  | n + 1, [], _, h => by rw [denL_nil] at h; subst h; simp
  | n + 1, d :: ds, _, h => by
    obtain ⟨v, ws, rfl, h1, h2⟩ := denL_cons.mp h
    exact denL_cons.mpr ⟨v, _, rfl, h1, DenL.take n h2⟩
theorem DenL.drop : ∀ (n : Nat) {ds : List D} {vs : List V}, DenL G et H ds vs → DenL G et H (ds.drop n) (vs.drop n)
  | 0, _, _, h => by simpa using h
  | n + 1, [], _, h => by rw [denL_nil] at h; subst h; simp
  | n + 1, d :: ds, _, h => by
    obtain ⟨v, ws, rfl, h1, h2⟩ := denL_cons.mp h
    simpa using DenL.drop n h2
theorem DenL.set : ∀ {ds : List D} {vs : List V} (i : Nat) {d : D} {v : V}, DenL G et H ds vs → Den G et H d v → DenL G et H (ds.set i d) (vs.set i v)
  | [], _, _, _, _, h, _ => by rw [denL_nil] at h; subst h; simp
  | d :: ds, _, i, d', v', h, k => by
    obtain ⟨v, ws, rfl, h1, h2⟩ := denL_cons.mp h
    cases i with
    | zero => exact denL_cons.mpr ⟨_, _, rfl, k, h2⟩
    | succ i => exact denL_cons.mpr ⟨_, _, rfl, h1, DenL.set i h2 k⟩
theorem DenL.ints : ∀ {ns : List Int} {vs : List V}, DenL G et H (ns.map D.int) vs → vs = ns.map V.int
  | [], _, h => by simpa using h
  | n :: ns, _, h => by
    obtain ⟨v, ws, rfl, h1, h2⟩ := denL_cons.mp h
    rw [den_int.mp h1, DenL.ints h2]; rfl
theorem DenL.bls : ∀ {ns : List Bool} {vs : List V}, DenL G et H (ns.map D.bl) vs → vs = ns.map V.bl
  | [], _, h => by simpa using h
  | n :: ns, _, h => by
    obtain ⟨v, ws, rfl, h1, h2⟩ := denL_cons.mp h
    rw [den_bl.mp h1, DenL.bls h2]; rfl
theorem DenL.strs : ∀ {ns : List (List Nat)} {vs : List V}, DenL G et H (ns.map D.str) vs → vs = (ns.map strV).map V.str
  | [], _, h => by simpa using h
  | n :: ns, _, h => by
    obtain ⟨v, ws, rfl, h1, h2⟩ := denL_cons.mp h
    rw [den_str.mp h1, DenL.strs h2]; rfl
theorem DenL.ofInts : ∀ {ns : List Int}, DenL G et H (ns.map D.int) (ns.map V.int)
  | [] => by simp
  | n :: ns => denL_cons.mpr ⟨_, _, rfl, by simp, DenL.ofInts⟩
theorem DenL.ofStrs : ∀ {ns : List (List Nat)}, DenL G et H (ns.map D.str) ((ns.map strV).map V.str)
  | [] => by simp
  | n :: ns => denL_cons.mpr ⟨_, _, rfl, by simp, DenL.ofStrs⟩
end

/-- all of a list are of a kind -/
def allM {A : Type} (f : D → Option A) : List D → Option (List A)
  | [] => some []
  | d :: ds => match f d, allM f ds with
    | some a, some as => some (a :: as)
    | _, _ => none
def D.int? : D → Option Int
  | .int i => some i
  | _ => none
def D.bl? : D → Option Bool
  | .bl i => some i
  | _ => none
def D.str? : D → Option (List Nat)
  | .str i => some i
  | _ => none
theorem allM_ints : ∀ {ds : List D} {ns : List Int}, allM D.int? ds = some ns → ds = ns.map D.int
  | [], _, h => by simp [allM] at h; subst h; rfl
  | d :: ds, ns, h => by
    unfold allM at h
    cases e1 : D.int? d with
    | none => rw [e1] at h; simp at h
    | some a =>
      cases e2 : allM D.int? ds with
      | none => rw [e1, e2] at h; simp at h
      | some as =>
        rw [e1, e2] at h
        simp at h
        subst h
        rw [allM_ints e2]
        cases d <;> simp [D.int?] at e1
        subst e1
        rfl
theorem allM_bls : ∀ {ds : List D} {ns : List Bool}, allM D.bl? ds = some ns → ds = ns.map D.bl
  | [], _, h => by simp [allM] at h; subst h; rfl
  | d :: ds, ns, h => by
    unfold allM at h
    cases e1 : D.bl? d with
    | none => rw [e1] at h; simp at h
    | some a =>
      cases e2 : allM D.bl? ds with
      | none => rw [e1, e2] at h; simp at h
      | some as =>
        rw [e1, e2] at h
        simp at h
        subst h
        rw [allM_bls e2]
        cases d <;> simp [D.bl?] at e1
        subst e1
        rfl
theorem allM_strs : ∀ {ds : List D} {ns : List (List Nat)}, allM D.str? ds = some ns → ds = ns.map D.str
  | [], _, h => by simp [allM] at h; subst h; rfl
  | d :: ds, ns, h => by
    unfold allM at h
    cases e1 : D.str? d with
    | none => rw [e1] at h; simp at h
    | some a =>
      cases e2 : allM D.str? ds with
      | none => rw [e1, e2] at h; simp at h
      | some as =>
        rw [e1, e2] at h
        simp at h
        subst h
        rw [allM_strs e2]
        cases d <;> simp [D.str?] at e1
        subst e1
        rfl
@[simp] theorem allM_mkInts (ns : List Int) : allM D.int? (ns.map D.int) = some ns := by
  induction ns with
  | nil => rfl
  | cons n ns ih => simp [allM, D.int?, ih]
@[simp] theorem allM_mkBls (ns : List Bool) : allM D.bl? (ns.map D.bl) = some ns := by
  induction ns with
  | nil => rfl
  | cons n ns ih => simp [allM, D.bl?, ih]
@[simp] theorem allM_mkStrs (ns : List (List Nat)) : allM D.str? (ns.map D.str) = some ns := by
  induction ns with
  | nil => rfl
  | cons n ns ih => simp [allM, D.str?, ih]

/-! ### a list's or a tuple's items -/
def seqOf (h : IH) : D → Option (List D)
  | .tup l => some l
  | .fl l => some l
  | .ref n => match h[n]? with
    | some (.lst xs) => some xs
    | some (.frz xs) => some xs
    | _ => none
  | _ => none
def lstOf (h : IH) : D → Option (List D)
  | .fl l => some l
  | .ref n => match h[n]? with
    | some (.lst xs) => some xs
    | some (.frz xs) => some xs
    | _ => none
  | _ => none
section
variable {G : Cf} {et : List Addr} {H : Hp} {h : IH}
theorem lst_ok (R : HRel G et h H) {x : D} {xs : List D} {v : V} (e : lstOf h x = some xs) (r : Den G et H x v) : ∃ a vs, v = .ref a ∧ SqL G.K H a vs ∧ DenL G et H xs vs := by
  cases x with
  | fl l =>
    simp only [lstOf, Option.some.injEq] at e
    subst e
    obtain ⟨a, vs, h1, h2, h3⟩ := den_fl.mp r
    exact ⟨a, vs, h1, h2.sq, h3⟩
  | ref n =>
    obtain ⟨a, h1, rfl⟩ := den_ref.mp r
    simp only [lstOf] at e
    split at e
    · rename_i ys hy
      cases e
      obtain ⟨vs, h2, h3⟩ := R.cell n _ a hy h1
      exact ⟨a, vs, rfl, SqL.of h2, h3⟩
    · rename_i ys hy
      cases e
      obtain ⟨vs, h2, h3⟩ := R.cell n _ a hy h1
      exact ⟨a, vs, rfl, h2.sq, h3⟩
    · cases e
  | _ => simp [lstOf] at e
theorem seq_ok (R : HRel G et h H) {x : D} {xs : List D} {v : V} (e : seqOf h x = some xs) (r : Den G et H x v) : ∃ a vs, v = .ref a ∧ (SqL G.K H a vs ∨ SqT G.K H a vs) ∧ DenL G et H xs vs := by
  cases x with
  | tup l =>
    simp only [seqOf, Option.some.injEq] at e
    subst e
    obtain ⟨a, vs, h1, h2, h3⟩ := den_tup.mp r
    exact ⟨a, vs, h1, .inr h2, h3⟩
  | ref n =>
    obtain ⟨a, vs, h1, h2, h3⟩ := lst_ok R (x := .ref n) (by simpa only [lstOf, seqOf] using e) r
    exact ⟨a, vs, h1, .inl h2, h3⟩
  | fl l =>
    obtain ⟨a, vs, h1, h2, h3⟩ := lst_ok R (x := .fl l) (by simpa only [lstOf, seqOf] using e) r
    exact ⟨a, vs, h1, .inl h2, h3⟩
  | _ => simp [seqOf] at e
theorem Pst.here {A : Type} {a : A} {F : List Addr → Hp → IH → A → Prop} {W : Value → Option Addr → Hp → Prop} (R : HRel G et h H) (x : Pst G et H (.ok a h) F W) : F et H h a := x et H List.prefix_rfl (Ext.refl H) R
/-- a new tuple -/
theorem Pst.newT {l : List D} {vs : List V} {Q : VK} {W : Value → Option Addr → Hp → Prop} (R : HRel G et h H) (r : DenL G et H l vs) (x : Pst G et H (.ok (.tup l) h) (fun et' H' _ d => ∀ v, Den G et' H' d v → Q v H') W) :
    ∀ p, H p = none → Q (.ref p) (upd H p (.tup vs)) := fun p hp =>
  x et (upd H p (.tup vs)) List.prefix_rfl (Ext.new hp) (R.new hp) _ (den_tup.mpr ⟨p, vs, rfl, upd_same, r.mono List.prefix_rfl (Ext.new hp)⟩)
/-- a new list -/
theorem Pst.newL {l : List D} {vs : List V} {Q : VK} {W : Value → Option Addr → Hp → Prop} (R : HRel G et h H) (r : DenL G et H l vs) (x : Pst G et H (.ok (.ref h.length) (h ++ [.lst l])) (fun et' H' _ d => ∀ v, Den G et' H' d v → Q v H') W) :
    ∀ p, H p = none → Q (.ref p) (upd H p (.lst vs)) := fun p hp => by
  refine x (et ++ [p]) (upd H p (.lst vs)) (List.prefix_append _ _) (Ext.new hp) (R.push hp ⟨vs, upd_same, r.mono (List.prefix_append _ _) (Ext.new hp)⟩) _ (den_ref.mpr ⟨p, ?_, rfl⟩)
  rw [← R.len, List.getElem?_append_right (Nat.le_refl _), Nat.sub_self]
  rfl
end

/-- a list that stands in the heap -/
def lsOf (h : IH) : D → Option (List D)
  | .fl l => some l
  | .ref n => match h[n]? with
    | some (.lst xs) => some xs
    | _ => none
  | _ => none
theorem ls_ok {G : Cf} {et : List Addr} {H : Hp} {h : IH} (R : HRel G et h H) {x : D} {xs : List D} {v : V} (e : lsOf h x = some xs) (r : Den G et H x v) : ∃ a vs, v = .ref a ∧ Rd H a (.lst vs) ∧ DenL G et H xs vs := by
  cases x with
  | fl l =>
    simp only [lsOf, Option.some.injEq] at e
    subst e
    obtain ⟨a, vs, h1, h2, h3⟩ := den_fl.mp r
    exact ⟨a, vs, h1, h2.rd, h3⟩
  | ref n =>
    obtain ⟨a, h1, rfl⟩ := den_ref.mp r
    simp only [lsOf] at e
    split at e
    · rename_i ys hy
      cases e
      obtain ⟨vs, h2, h3⟩ := R.cell n _ a hy h1
      exact ⟨a, vs, rfl, .inl h2, h3⟩
    · cases e
  | _ => simp [lsOf] at e
/-! ### arithmetic -/
def dI (C : Int → Int → Bool) (g : Int → Int → Int) : D → D → IH → R D
  | .int i, .int j, h => if C i j then .ok (.int (g i j)) h else .no
  | _, _, _ => .no
theorem opS_I {G : Cf} {C : Int → Int → Bool} {C' : Int → Int → Prop} {g : Int → Int → Int} (hC : ∀ i j, C i j = true → C' i j) : OpS G (rI C' fun i j => .int (g i j)) (dI C g) := by
  intro et H h x y v w W Q rx ry R p
  unfold dI at p
  split at p
  · rename_i i j
    split at p
    · rename_i c
      exact ⟨i, j, den_int.mp rx, den_int.mp ry, hC i j c, p.here R _ (by simp)⟩
    · exact p.elim
  · exact p.elim
def dSub : D → D → IH → R D
  | .int i, .int j, h => .ok (.int (i - j)) h
  | _, _, _ => .no
def cMul (i j : Int) : Bool := (decide (-(2 ^ 64) < i) && decide (i < 2 ^ 64)) || (decide (-(2 ^ 64) < j) && decide (j < 2 ^ 64))
def cDiv (_ j : Int) : Bool := decide (0 < j) && decide (j < 2 ^ 64)
def cMod (_ j : Int) : Bool := decide (0 < j)
def cPow (i j : Int) : Bool := decide (0 ≤ j) && decide (j ≤ 1000000) && decide (i.natAbs < 2 ^ 64)
def dMul : D → D → IH → R D
  | .int i, .int j, h => if cMul i j then .ok (.int (i * j)) h else .no
  | .str a, .int k, h => if 0 ≤ k ∧ k ≤ 1000 ∧ a.length ≤ 10000 then .ok (.str (List.replicate k.toNat a).flatten) h else .no
  | .tup l, .int k, h => if 0 < l.length ∧ 2 ≤ k ∧ k ≤ 1000 ∧ l.length ≤ 1000 then .ok (.tup (List.replicate k.toNat l).flatten) h else if k = 1 then .ok (.tup l) h else .no
  | .ref n, .int k, h => match h[n]? with
    | some (.lst xs) => if k ≤ 10000000 ∧ -10000000 ≤ k ∧ xs.length * k.toNat ≤ 10000000 then .ok (.ref h.length) (h ++ [.lst (List.replicate k.toNat xs).flatten]) else .no
    | _ => .no
  | _, _, _ => .no
abbrev dDiv := dI cDiv fun i j => i / j
abbrev dMod := dI cMod fun i j => i % j
abbrev dPow := dI cPow fun i j => i ^ j.toNat
def dAdd : D → D → IH → R D
  | .int i, .int j, h => .ok (.int (i + j)) h
  | .str a, .str b, h => if a.length + b.length ≤ 10000000 then .ok (.str (a ++ b)) h else .no
  | .tup a, .tup b, h => if a.length + b.length ≤ 10000000 then .ok (.tup (a ++ b)) h else .no
  | x, y, h => match lsOf h x, lsOf h y with
    | some xs, some ys => if xs.length + ys.length ≤ 10000000 then .ok (.ref h.length) (h ++ [.lst (xs ++ ys)]) else .no
    | _, _ => .no
section
variable {X : Cx} {G : Cf} {W : WX} {a b e : Expr} {ma mb mc : ME} {pos : Pos}
theorem me_sub (ha : PE X a (tE G W ma)) (hb : PE X b (tE G W mb)) : PE X (.BinOp a .Sub b pos) (tE G W (mOp dSub ma mb)) := by
  refine me_op op_sub ?_ ha hb
  intro et H h x y v w W Q rx ry R p
  unfold dSub at p
  split at p
  · exact ⟨_, _, den_int.mp rx, den_int.mp ry, p.here R _ (by simp)⟩
  · exact p.elim
theorem me_mod (ha : PE X a (tE G W ma)) (hb : PE X b (tE G W mb)) : PE X (.BinOp a .Mod b pos) (tE G W (mOp dMod ma mb)) :=
  me_op op_mod (opS_I fun i j c => by simpa [cMod] using c) ha hb
theorem me_div (ha : PE X a (tE G W ma)) (hb : PE X b (tE G W mb)) : PE X (.BinOp a .FloorDiv b pos) (tE G W (mOp dDiv ma mb)) :=
  me_op op_fdivW (opS_I fun i j c => by
    have c' : 0 < j ∧ j < 2 ^ 64 := by simpa [cDiv] using c
    exact wide_div c'.1 (b := 64) (by omega) (by decide) (by decide)) ha hb
theorem me_pow (ha : PE X a (tE G W ma)) (hb : PE X b (tE G W mb)) : PE X (.BinOp a .Pow b pos) (tE G W (mOp dPow ma mb)) :=
  me_op op_pow (opS_I fun i j c => by
    have c' : (0 ≤ j ∧ j ≤ 1000000) ∧ i.natAbs < 2 ^ 64 := by simpa [cPow] using c
    exact ⟨c'.1.1, c'.1.2, c'.2⟩) ha hb
theorem den_list {et : List Addr} {H : Hp} {h : IH} (R : HRel G et h H) {n : Nat} {xs : List D} {v : V} (e : h[n]? = some (.lst xs)) (r : Den G et H (.ref n) v) : ∃ a vs, et[n]? = some a ∧ v = .ref a ∧ H a = some (.lst vs) ∧ DenL G et H xs vs := by
  obtain ⟨a, h1, rfl⟩ := den_ref.mp r
  obtain ⟨vs, h2, h3⟩ := R.cell n _ a e h1
  exact ⟨a, vs, h1, rfl, h2, h3⟩
theorem DenL.flat {et : List Addr} {H : Hp} {xs : List D} {vs : List V} (r : DenL G et H xs vs) : ∀ k : Nat, DenL G et H (List.replicate k xs).flatten (List.replicate k vs).flatten
  | 0 => by simp
  | k + 1 => by
    rw [List.replicate_succ, List.replicate_succ, List.flatten_cons, List.flatten_cons]
    exact r.app (r.flat k)
end

section
variable {X : Cx}
theorem Inv.lstR {pins : List (Addr × Obj)} {σ : L2.St} {H : Hp} {s : Shared} {a : Addr} {xs : List V} (I : Inv X pins σ H s) (r : Rd H a (.lst xs)) : xs.length ≤ sizeLine ∧ ∃ (its : List Value) (n : Nat), Vals xs its ∧ s.heap.get? a = some { cls := .type "list", data := .seq its.toArray n } := by
  rcases r with r | ⟨o, r⟩
  · exact I.hok a _ r
  · exact (I.hok a _ r).2
def rCatR : R2 := fun x y H Q => ∃ l b xs zs, x = .ref l ∧ y = .ref b ∧ Rd H l (.lst xs) ∧ Rd H b (.lst zs) ∧ xs.length + zs.length ≤ sizeLine ∧ ∀ p, H p = none → Q (.ref p) (upd H p (.lst (xs ++ zs)))
theorem op_catR : OpR X (binaryOp .Add) rCatR := by
  intro pins s σ H x y v u Q I rx ry h
  obtain ⟨l, b, xs, zs, rfl, rfl, hH, hB, hz, q⟩ := h
  cases rx
  cases ry
  obtain ⟨z, its, n, r, e⟩ := Inv.lstR I hH
  obtain ⟨z2, its2, n2, r2, e2⟩ := Inv.lstR I hB
  refine PySem.P.add_list e e2 ?_ (by rw [List.size_toArray, List.size_toArray, ← r.length, ← r2.length]; omega)
  have ea : its.toArray ++ its2.toArray = (its ++ its2).toArray := by simp
  rw [ea]
  exact ⟨.ref _, _, I.lnew (t' := s.toks) (r.append r2) (by rw [List.length_append]; omega), rfl, q _ I.fresh⟩
end
section
variable {X : Cx} {G : Cf} {W : WX} {a b e : Expr} {ma mb mc : ME} {pos : Pos}
theorem foldl_arr (a : List Nat) : ∀ (n : Nat) (z : Array Nat), (List.replicate n a.toArray).foldl (· ++ ·) z = z ++ (List.replicate n a).flatten.toArray
  | 0, z => by simp
  | n + 1, z => by
    rw [List.replicate_succ, List.foldl_cons, foldl_arr a n, List.replicate_succ, List.flatten_cons, Array.append_assoc]
    simp
def rRepS : R2 := fun x y H Q => ∃ a k, x = .str (strV a) ∧ y = .int k ∧ 0 ≤ k ∧ k ≤ 1000 ∧ a.length ≤ 10000 ∧ Q (.str (strV (List.replicate k.toNat a).flatten)) H
theorem op_repS : OpR X (binaryOp .Mult) rRepS := by
  intro pins s σ H x y v u Q I rx ry h
  obtain ⟨w, k, rfl, rfl, h0, h1, hl, q⟩ := h
  obtain ⟨t, rfl⟩ := rx
  obtain ⟨t', rfl⟩ := ry
  have ln : (strV w).length = w.length := by show w.toArray.size = _; simp
  have mm : w.length * k.toNat ≤ 10000 * 1000 := Nat.mul_le_mul hl (by omega)
  have nl : PySem.Builtin.Str.tooLong ((strV w).length * k.toNat) = false := by
    rw [ln]; unfold PySem.Builtin.Str.tooLong; rw [sizeLine_eq]; simp; omega
  refine PySem.P.mul_str (by
    have a1 : ¬ k < -(2 ^ 63 : Int) := by omega
    have a2 : ¬ k ≥ 2 ^ 63 := by omega
    rw [decide_eq_false a1, decide_eq_false a2]; rfl) (fun hk _ => ?_) (fun _ _ => nl) ?_
  · rw [ln]
    have hk' : 0 < k := by omega
    have := (Int.le_ediv_iff_mul_le (a := (w.length : Int)) (b := 2 ^ 63 - 1) hk').mpr (by
      have e : (w.length : Int) * k = ((w.length * k.toNat : Nat) : Int) := by rw [Int.natCast_mul, Int.toNat_of_nonneg h0]
      rw [e]; omega)
    omega
  · by_cases c1 : k < 1
    · rw [if_pos c1]
      have : k = 0 := by omega
      subst this
      exact ⟨by decide, ⟨.str _, H, I.tok _, ⟨_, rfl⟩, q⟩⟩
    · rw [if_neg c1]
      by_cases c2 : (k == 1 || (strV w).length == 0) = true
      · rw [if_pos c2]
        have e : (List.replicate k.toNat w).flatten = w := by
          rw [Bool.or_eq_true, beq_iff_eq, beq_iff_eq, ln] at c2
          rcases c2 with c2 | c2
          · subst c2; simp
          · have := List.eq_nil_of_length_eq_zero c2
            subst this; simp
        rw [e] at q
        exact ⟨.str _, H, I.tok _, ⟨_, rfl⟩, q⟩
      · rw [if_neg c2]
        have e : (⟨(List.replicate k.toNat (strV w).cps).foldl (· ++ ·) #[]⟩ : Str) = strV (List.replicate k.toNat w).flatten := by
          show (⟨(List.replicate k.toNat w.toArray).foldl (· ++ ·) #[]⟩ : Str) = ⟨_⟩
          rw [foldl_arr]; simp
        rw [e]
        exact ⟨by
          show (List.replicate k.toNat w).flatten.toArray.size ≤ _
          rw [sizeLine_eq]; simp [List.length_flatten]; rw [Nat.mul_comm]; omega, ⟨.str _, H, I.tok _, ⟨_, rfl⟩, q⟩⟩
theorem tuple_mul1 (l : Addr) (items : Array Value) (n : Nat) (dd : Option Addr) (sl : Array (Option Value)) (u : Tok) :
    Meets (Builtin.«tuple.__mul__» ⟨[.ref l, .int 1 u], []⟩) (fun _ R s => s.heap.get? l = some { cls := .type "tuple", dict := dd, data := .seq items n, slots := sl } ∧ R (.ok (.ret (Value.ref l))) s) :=
  .of_wp fun prog w A R s h => by
    obtain ⟨hp, g, d, tk, os⟩ := s
    obtain ⟨hl, h⟩ := h
    have f1 := AutoSeq1.idx_int
    wp_walk using wpAny_loadPart' hl
    exact ⟨_, rfl, h⟩
def rRepT1 (K : PySem.W.Frag) : R2 := fun x y H Q => ∃ l xs, x = .ref l ∧ y = .int 1 ∧ SqT K H l xs ∧ Q (.ref l) H
theorem op_repT1 : OpR X (binaryOp .Mult) (rRepT1 X.K) := by
  intro pins s σ H x y v u Q I rx ry h
  obtain ⟨l, xs, rfl, rfl, hT, q⟩ := h
  cases rx
  obtain ⟨t, rfl⟩ := ry
  obtain ⟨its, r, ⟨⟨cls, dd, data, sl⟩, ho, hc, n, hd⟩, hs⟩ := I.tuple hT
  simp only at hc hd
  subst hc hd
  refine wpAny_binaryOp_repeat_ref (T := "tuple") (U := "int") (by decide) ⟨_, ho, rfl⟩ (fun s' => typeIs_int s' 1 t) noFill_tuple_mul F.fills_int_mul F.slot_int_rmul repeat_tuple F.slot_int_index.lookup
    (call_meets F.slot_int_rmul (typeIs_int s 1 t) F.entry_int_rmul (F.args_int_rmul_2 _ _) (int_rmul_tuple 1 t l its.toArray n dd sl)
      ⟨ho, rfl, ⟨_, ho, rfl⟩, call_meets F.slot_tuple_mul ⟨_, ho, rfl⟩ F.entry_tuple_mul (F.args_tuple_mul_2 _ _) (tuple_mul1 l its.toArray n dd sl t) ⟨ho, ?_⟩⟩)
  exact ⟨.ref l, H, I, rfl, q⟩
def rMulAll (K : PySem.W.Frag) : R2 := fun x y H Q => rI CMul (fun i j => .int (i * j)) x y H Q ∨ rRep x y H Q ∨ rRepT K x y H Q ∨ rRepS x y H Q ∨ rRepT1 K x y H Q
theorem op_mulAll : OpR X (binaryOp .Mult) (rMulAll X.K) := OpR.or op_mul (OpR.or op_rep (OpR.or op_repT (OpR.or op_repS op_repT1)))
theorem me_mul (hK : X.K = G.K) (ha : PE X a (tE G W ma)) (hb : PE X b (tE G W mb)) : PE X (.BinOp a .Mult b pos) (tE G W (mOp dMul ma mb)) := by
  refine me_op op_mulAll ?_ ha hb
  intro et H h x y v w W Q rx ry R p
  rw [hK]
  unfold dMul at p
  split at p
  · split at p
    · rename_i i j c
      refine .inl ⟨i, j, den_int.mp rx, den_int.mp ry, ?_, p.here R _ (by simp)⟩
      simpa [cMul, CMul] using c
    · exact p.elim
  · split at p
    · rename_i a k c
      exact .inr (.inr (.inr (.inl ⟨a, k, den_str.mp rx, den_int.mp ry, c.1, c.2.1, c.2.2, p.here R _ (by simp)⟩)))
    · exact p.elim
  · split at p
    · rename_i l k c
      obtain ⟨a, vs, rfl, h2, h3⟩ := den_tup.mp rx
      refine .inr (.inr (.inl ⟨a, k, vs, rfl, den_int.mp ry, h2, ?_, c.2.1, c.2.2.1, by rw [h3.len]; exact c.2.2.2, p.newT R (h3.flat _)⟩))
      rintro rfl
      have := h3.len
      simp at this
      omega
    · split at p
      · rename_i e1
        subst e1
        obtain ⟨a, vs, rfl, h2, h3⟩ := den_tup.mp rx
        exact .inr (.inr (.inr (.inr ⟨a, vs, rfl, den_int.mp ry, h2, p.here R _ rx⟩)))
      · exact p.elim
  · split at p
    · split at p
      · rename_i n k hh xs hx c
        obtain ⟨a, vs, h1, rfl, h2, h3⟩ := den_list R hx rx
        refine .inr (.inl ⟨a, k, vs, rfl, den_int.mp ry, h2, by omega, by omega, sz (by rw [h3.len]; exact c.2.2), ?_⟩)
        exact p.newL R (h3.flat _)
      · exact p.elim
    · exact p.elim
  · exact p.elim
def rAddAll (K : PySem.W.Frag) : R2 := fun x y H Q => rI0 (fun i j => .int (i + j)) x y H Q ∨ (∃ i j, x = .str i ∧ y = .str j ∧ i.length + j.length ≤ sizeLine ∧ Q (.str (i ++ j)) H) ∨ rCatA K x y H Q ∨ rCatR x y H Q
theorem op_addAll : OpR X (binaryOp .Add) (rAddAll X.K) := OpR.or op_add (OpR.or op_add_str (OpR.or op_catA op_catR))
theorem strV_app (a b : List Nat) : strV a ++ strV b = strV (a ++ b) := by
  show (⟨a.toArray ++ b.toArray⟩ : Str) = ⟨(a ++ b).toArray⟩
  simp
theorem dAdd_ok (hK : X.K = G.K) : OpS G (rAddAll X.K) dAdd := by
  intro et H h x y v w W Q rx ry R p
  rw [hK]
  unfold dAdd at p
  split at p
  · exact .inl ⟨_, _, den_int.mp rx, den_int.mp ry, p.here R _ (by simp)⟩
  · split at p
    · rename_i c
      refine .inr (.inl ⟨_, _, den_str.mp rx, den_str.mp ry, ?_, ?_⟩)
      · rw [strV_length, strV_length]; exact sz c
      · exact p.here R _ (by simp [strV_app])
    · exact p.elim
  · split at p
    · rename_i l m c
      obtain ⟨a, vs, rfl, h2, h3⟩ := den_tup.mp rx
      obtain ⟨b, ws, rfl, k2, k3⟩ := den_tup.mp ry
      refine .inr (.inr (.inl ⟨a, b, vs, ws, rfl, rfl, h2, k2, sz (by rw [h3.len, k3.len]; exact c), fun e => ?_, fun e1 e => ?_, fun _ _ => p.newT R (h3.app k3)⟩))
      · have hl : l = [] := by
          have := h3.len
          rw [e] at this
          exact List.eq_nil_of_length_eq_zero this.symm
        subst hl
        exact p.here R _ (den_tup.mpr ⟨b, ws, rfl, k2, k3⟩)
      · have hl : m = [] := by
          have := k3.len
          rw [e] at this
          exact List.eq_nil_of_length_eq_zero this.symm
        subst hl
        exact p.here R _ (den_tup.mpr ⟨a, vs, rfl, h2, by simpa using h3⟩)
    · exact p.elim
  · split at p
    · split at p
      · rename_i xs ys hx hy c
        obtain ⟨a, vs, rfl, h2, h3⟩ := ls_ok R hx rx
        obtain ⟨b, ws, rfl, k2, k3⟩ := ls_ok R hy ry
        exact .inr (.inr (.inr ⟨a, b, vs, ws, rfl, rfl, h2, k2, sz (by rw [h3.len, k3.len]; exact c), p.newL R (h3.app k3)⟩))
      · exact p.elim
    · exact p.elim
theorem me_add (hK : X.K = G.K) (ha : PE X a (tE G W ma)) (hb : PE X b (tE G W mb)) : PE X (.BinOp a .Add b pos) (tE G W (mOp dAdd ma mb)) := me_op op_addAll (dAdd_ok hK) ha hb
/-- order of ints -/
def dC (g : Int → Int → Bool) : D → D → IH → R D
  | .int i, .int j, h => .ok (.bl (g i j)) h
  | _, _, _ => .no
theorem opS_C {g : Int → Int → Bool} : OpS G (rI0 fun i j => .bl (g i j)) (dC g) := by
  intro et H h x y v w W Q rx ry R p
  unfold dC at p
  split at p
  · exact ⟨_, _, den_int.mp rx, den_int.mp ry, p.here R _ (by simp)⟩
  · exact p.elim
abbrev dLt := dC fun i j => decide (i < j)
abbrev dLe := dC fun i j => decide (i ≤ j)
abbrev dGt := dC fun i j => decide (j < i)
abbrev dGe := dC fun i j => decide (j ≤ i)
/-! ### as data -/
def D.py (h : IH) : Nat → D → Option PyData
  | 0, _ => none
  | k + 1, d => match d with
    | .non => some .none
    | .bl b => some (.bool b)
    | .int i => some (.int i)
    | .str s => some (.str (strV s))
    | .tup l => (allM (D.py h k) l).map .tuple
    | .fl l => (allM (D.py h k) l).map .list
    | .ref n => match h[n]? with
      | some (.lst xs) => (allM (D.py h k) xs).map .list
      | some (.frz xs) => (allM (D.py h k) xs).map .list
      | _ => none
    | _ => none
end
theorem allM_cons {A : Type} {f : D → Option A} {d : D} {ds : List D} {r : List A} (e : allM f (d :: ds) = some r) : ∃ a as, f d = some a ∧ allM f ds = some as ∧ r = a :: as := by
  unfold allM at e
  split at e
  · rename_i a as h1 h2
    cases e
    exact ⟨a, as, h1, h2, rfl⟩
  · cases e
section
variable {G : Cf} {et : List Addr} {H : Hp} {h : IH}
theorem depthAll_le {n : Nat} : ∀ {ps : List PyData}, (∀ p ∈ ps, p.depth ≤ n) → PyData.depthAll ps ≤ n
  | [], _ => by simp [PyData.depthAll]
  | p :: ps, hp => by
    have h1 := hp p (List.mem_cons_self)
    have h2 := depthAll_le (ps := ps) fun q hq => hp q (List.mem_cons_of_mem _ hq)
    simp only [PyData.depthAll]
    omega
theorem py_all (R : HRel G et h H) {k : Nat} (ih : ∀ (d : D) (v : V) (p : PyData), D.py h k d = some p → Den G et H d v → Dp G.K H v p ∧ p.plain = true ∧ p.depth ≤ k) :
    ∀ (ds : List D) (vs : List V) (ps : List PyData), allM (D.py h k) ds = some ps → DenL G et H ds vs → DpAll G.K H vs ps ∧ PyData.plainAll ps = true ∧ ∀ p ∈ ps, p.depth ≤ k
  | [], vs, ps, e, r => by
    simp only [allM, Option.some.injEq] at e
    rw [denL_nil] at r
    subst e r
    exact ⟨.nil, by simp [PyData.plainAll], by simp⟩
  | d :: ds, vs, ps, e, r => by
    obtain ⟨p, ps', e1, e2, rfl⟩ := allM_cons e
    obtain ⟨v, ws, rfl, r1, r2⟩ := denL_cons.mp r
    obtain ⟨a1, a2, a3⟩ := ih d v p e1 r1
    obtain ⟨b1, b2, b3⟩ := py_all R ih ds ws ps' e2 r2
    exact ⟨.cons a1 b1, by simp [PyData.plainAll, a2, b2], by simpa using ⟨a3, b3⟩⟩
theorem py_ok (R : HRel G et h H) : ∀ (k : Nat) (d : D) (v : V) (p : PyData), D.py h k d = some p → Den G et H d v → Dp G.K H v p ∧ p.plain = true ∧ p.depth ≤ k
  | 0, _, _, _, e, _ => by simp [D.py] at e
  | k + 1, d, v, p, e, r => by
    have ih := py_all R (py_ok R k)
    cases d with
    | non => simp only [D.py, Option.some.injEq] at e; subst e; rw [den_non.mp r]; exact ⟨.non, by simp [PyData.plain], by simp [PyData.depth]⟩
    | bl b => simp only [D.py, Option.some.injEq] at e; subst e; rw [den_bl.mp r]; exact ⟨.bl b, by simp [PyData.plain], by simp [PyData.depth]⟩
    | int i => simp only [D.py, Option.some.injEq] at e; subst e; rw [den_int.mp r]; exact ⟨.int i, by simp [PyData.plain], by simp [PyData.depth]⟩
    | str s => simp only [D.py, Option.some.injEq] at e; subst e; rw [den_str.mp r]; exact ⟨.str _, by simp [PyData.plain], by simp [PyData.depth]⟩
    | tup l =>
      simp only [D.py, Option.map_eq_some_iff] at e
      obtain ⟨ps, e1, rfl⟩ := e
      obtain ⟨a, vs, rfl, r1, r2⟩ := den_tup.mp r
      obtain ⟨b1, b2, b3⟩ := ih l vs ps e1 r2
      exact ⟨.tup r1 b1, by simp [PyData.plain, b2], by simp only [PyData.depth]; have := depthAll_le b3; omega⟩
    | ref n =>
      obtain ⟨a, r1, rfl⟩ := den_ref.mp r
      simp only [D.py] at e
      split at e
      · rename_i xs hx
        simp only [Option.map_eq_some_iff] at e
        obtain ⟨ps, e1, rfl⟩ := e
        obtain ⟨vs, c1, c2⟩ := R.cell n _ a hx r1
        obtain ⟨b1, b2, b3⟩ := ih xs vs ps e1 c2
        exact ⟨.lst (SqL.of c1) b1, by simp [PyData.plain, b2], by simp only [PyData.depth]; have := depthAll_le b3; omega⟩
      · rename_i xs hx
        simp only [Option.map_eq_some_iff] at e
        obtain ⟨ps, e1, rfl⟩ := e
        obtain ⟨vs, c1, c2⟩ := R.cell n _ a hx r1
        obtain ⟨b1, b2, b3⟩ := ih xs vs ps e1 c2
        exact ⟨.lst c1.sq b1, by simp [PyData.plain, b2], by simp only [PyData.depth]; have := depthAll_le b3; omega⟩
      · cases e
    | fl l =>
      simp only [D.py, Option.map_eq_some_iff] at e
      obtain ⟨ps, e1, rfl⟩ := e
      obtain ⟨a, vs, rfl, r1, r2⟩ := den_fl.mp r
      obtain ⟨b1, b2, b3⟩ := ih l vs ps e1 r2
      exact ⟨.lst r1.sq b1, by simp [PyData.plain, b2], by simp only [PyData.depth]; have := depthAll_le b3; omega⟩
    | fd ks l => simp [D.py] at e
    | exc a => simp [D.py] at e
end
def rEqP (K : PySem.W.Frag) : R2 := fun x y H Q => ∃ d e, Dp K H x d ∧ Dp K H y e ∧ d.plain = true ∧ e.plain = true ∧ d.depth ≤ 50 ∧ Q (.bl (PyData.eqv d e)) H
def rNeP (K : PySem.W.Frag) : R2 := fun x y H Q => ∃ d e, Dp K H x d ∧ Dp K H y e ∧ d.plain = true ∧ e.plain = true ∧ d.depth ≤ 50 ∧ Q (.bl (!PyData.eqv d e)) H
section
variable {X : Cx}
theorem op_eqP (hu : X.A.units + 64 < cLine) : OpR X (compareOp .Eq) (rEqP X.K) := by
  intro pins s σ H x y v u Q I rx ry h
  obtain ⟨d, e, hd, he, pd, pe, dd, q⟩ := h
  obtain ⟨as, r1⟩ := Dp.reads I d x v hd rx
  obtain ⟨bs, r2⟩ := Dp.reads I e y u he ry
  exact SeqAt.eq_plain r1 r2 pd pe (by omega) ⟨.bl _, H, I, rfl, q⟩
theorem op_neP (hu : X.A.units + 64 < cLine) : OpR X (compareOp .NotEq) (rNeP X.K) := by
  intro pins s σ H x y v u Q I rx ry h
  obtain ⟨d, e, hd, he, pd, pe, dd, q⟩ := h
  obtain ⟨as, r1⟩ := Dp.reads I d x v hd rx
  obtain ⟨bs, r2⟩ := Dp.reads I e y u he ry
  exact SeqAt.ne_plain r1 r2 pd pe (by omega) ⟨.bl _, H, I, rfl, q⟩
def rInP (K : PySem.W.Frag) (neg : Bool) : R2 := fun x y H Q => ∃ d es, Dp K H x d ∧ (Dp K H y (.list es) ∨ Dp K H y (.tuple es)) ∧ d.plain = true ∧ PyData.plainAll es = true ∧ d.depth ≤ 50 ∧
  Q (.bl (if neg then !(es.any fun z => PyData.eqv z d) else es.any fun z => PyData.eqv z d)) H
theorem op_inP (hu : X.A.units + 64 < cLine) : OpR X (compareOp .In) (rInP X.K false) := by
  intro pins s σ H x y v u Q I rx ry h
  obtain ⟨d, es, hd, he, pd, pe, dd, q⟩ := h
  obtain ⟨as, r1⟩ := Dp.reads I d x v hd rx
  rcases he with he | he
  · obtain ⟨bs, r2⟩ := Dp.reads I _ y u he ry
    exact SeqAt.in_list_data r2 r1 pe pd (by omega) ⟨.bl _, H, I, rfl, by simpa using q⟩
  · obtain ⟨bs, r2⟩ := Dp.reads I _ y u he ry
    exact SeqAt.in_tuple_data r2 r1 pe pd (by omega) ⟨.bl _, H, I, rfl, by simpa using q⟩
theorem op_notInP (hu : X.A.units + 64 < cLine) : OpR X (compareOp .NotIn) (rInP X.K true) := by
  intro pins s σ H x y v u Q I rx ry h
  obtain ⟨d, es, hd, he, pd, pe, dd, q⟩ := h
  obtain ⟨as, r1⟩ := Dp.reads I d x v hd rx
  rcases he with he | he
  · obtain ⟨bs, r2⟩ := Dp.reads I _ y u he ry
    exact SeqAt.notIn_list_data r2 r1 pe pd (by omega) ⟨.bl _, H, I, rfl, by simpa using q⟩
  · obtain ⟨bs, r2⟩ := Dp.reads I _ y u he ry
    exact SeqAt.notIn_tuple_data r2 r1 pe pd (by omega) ⟨.bl _, H, I, rfl, by simpa using q⟩
end
def dEq (neg : Bool) : D → D → IH → R D := fun x y h => match D.py h 50 x, D.py h 50 y with
  | some a, some b => .ok (.bl (if neg then !PyData.eqv a b else PyData.eqv a b)) h
  | _, _ => .no
/-- x in y: a sign in a text, a datum in a list or a tuple -/
def dIn (neg : Bool) : D → D → IH → R D := fun x y h => match x, y with
  | .str [c], .str z => .ok (.bl (if neg then !decide (c ∈ z) else decide (c ∈ z))) h
  | x, y => match D.py h 50 x, (seqOf h y).bind (allM (D.py h 49)) with
    | some a, some bs => .ok (.bl (if neg then !(bs.any fun z => PyData.eqv z a) else bs.any fun z => PyData.eqv z a)) h
    | _, _ => .no
def dIsN (neg : Bool) : D → D → IH → R D := fun x y h => match y with
  | .non => match x with
    | .non => .ok (.bl (!neg)) h
    | _ => .ok (.bl neg) h
  | .bl b => match x with
    | .bl a => .ok (.bl (if neg then !decide (a = b) else decide (a = b))) h
    | _ => .no
  | _ => .no
section
variable {X : Cx} {G : Cf} {W : WX} {a b c e : Expr} {ma mb mc : ME} {pos : Pos}
theorem dEq_ok (hK : X.K = G.K) : OpS G (rEqP X.K) (dEq false) := by
  intro et H h x y v w W Q rx ry R p
  unfold dEq at p
  split at p
  · rename_i d1 d2 e1 e2
    obtain ⟨a1, a2, a3⟩ := py_ok R 50 x v d1 e1 rx
    obtain ⟨b1, b2, b3⟩ := py_ok R 50 y w d2 e2 ry
    rw [hK]
    exact ⟨d1, d2, a1, b1, a2, b2, a3, p.here R _ (by simp)⟩
  · exact p.elim
theorem dNe_ok (hK : X.K = G.K) : OpS G (rNeP X.K) (dEq true) := by
  intro et H h x y v w W Q rx ry R p
  unfold dEq at p
  split at p
  · rename_i d1 d2 e1 e2
    obtain ⟨a1, a2, a3⟩ := py_ok R 50 x v d1 e1 rx
    obtain ⟨b1, b2, b3⟩ := py_ok R 50 y w d2 e2 ry
    rw [hK]
    exact ⟨d1, d2, a1, b1, a2, b2, a3, p.here R _ (by simp)⟩
  · exact p.elim
def rInA (K : PySem.W.Frag) (neg : Bool) : R2 := fun x y H Q => (∃ (c : Nat) (z : Str), x = .str ⟨#[c]⟩ ∧ y = .str z ∧ Q (.bl (if neg then !decide (c ∈ z.cps.toList) else decide (c ∈ z.cps.toList))) H) ∨ rInP K neg x y H Q
theorem op_inA (hu : X.A.units + 64 < cLine) : OpR X (compareOp .In) (rInA X.K false) := by
  intro pins s σ H x y v u Q I rx ry h
  rcases h with ⟨c, z, h1, h2, q⟩ | h
  · exact op_in_sign pins s σ H x y v u Q I rx ry ⟨c, z, h1, h2, by simpa using q⟩
  · exact op_inP hu pins s σ H x y v u Q I rx ry h
theorem op_notInA (hu : X.A.units + 64 < cLine) : OpR X (compareOp .NotIn) (rInA X.K true) := by
  intro pins s σ H x y v u Q I rx ry h
  rcases h with ⟨c, z, h1, h2, q⟩ | h
  · exact op_notIn_sign pins s σ H x y v u Q I rx ry ⟨c, z, h1, h2, by simpa using q⟩
  · exact op_notInP hu pins s σ H x y v u Q I rx ry h
theorem dIn_ok (hK : X.K = G.K) (neg : Bool) : OpS G (rInA X.K neg) (dIn neg) := by
  intro et H h x y v w W Q rx ry R p
  unfold dIn at p
  split at p
  · rename_i c z
    refine .inl ⟨c, strV z, den_str.mp rx, den_str.mp ry, ?_⟩
    have h1 : decide (c ∈ (strV z).cps.toList) = decide (c ∈ z) := decide_eq_decide.mpr (by simp [strV])
    rw [h1]
    exact p.here R _ (by simp)
  · split at p
    · rename_i d es e1 e2
      obtain ⟨a1, a2, a3⟩ := py_ok R 50 x v d e1 rx
      simp only [Option.bind_eq_some_iff] at e2
      obtain ⟨ds, e3, e4⟩ := e2
      obtain ⟨q, vs, rfl, s1, s2⟩ := seq_ok R e3 ry
      obtain ⟨b1, b2, b3⟩ := py_all R (py_ok R 49) ds vs es e4 s2
      rw [hK]
      refine .inr ⟨d, es, a1, ?_, a2, b2, a3, p.here R _ (by simp)⟩
      rcases s1 with s1 | s1
      · exact .inl (.lst s1 b1)
      · exact .inr (.tup s1 b1)
    · exact p.elim
theorem op_isA : OpR X (compareOp .Is) (fun x y H Q => (y = .non ∧ Q (.bl (decide (x = .non))) H) ∨ rIsB x y H Q) := OpR.or op_isN op_isBl
theorem op_isnotA : OpR X (compareOp .IsNot) (fun x y H Q => (y = .non ∧ Q (.bl (!decide (x = .non))) H) ∨ rNotB x y H Q) := OpR.or op_notN op_notBl
theorem den_nn {et : List Addr} {H : Hp} {x : D} {v : V} (n : x ≠ .non) (r : Den G et H x v) : v ≠ .non := by
  cases x with
  | non => exact absurd rfl n
  | bl b => rw [den_bl.mp r]; exact fun z => nomatch z
  | int b => rw [den_int.mp r]; exact fun z => nomatch z
  | str b => rw [den_str.mp r]; exact fun z => nomatch z
  | tup l => obtain ⟨a, vs, e, _⟩ := den_tup.mp r; rw [e]; exact fun z => nomatch z
  | ref n => obtain ⟨a, _, e⟩ := den_ref.mp r; rw [e]; exact fun z => nomatch z
  | exc a => rw [show v = .ref a by simpa [Den] using r]; exact fun z => nomatch z
  | fl l => obtain ⟨a, vs, e, _⟩ := den_fl.mp r; rw [e]; exact fun z => nomatch z
  | fd ks l => obtain ⟨a, vs, e, _⟩ := den_fd.mp r; rw [e]; exact fun z => nomatch z
theorem dIs_ok : OpS G (fun x y H Q => (y = .non ∧ Q (.bl (decide (x = .non))) H) ∨ rIsB x y H Q) (dIsN false) := by
  intro et H h x y v w W Q rx ry R p
  unfold dIsN at p
  split at p
  · split at p
    · refine .inl ⟨den_non.mp ry, ?_⟩
      exact p.here R _ (by simp [den_non.mp rx])
    · rename_i hn
      refine .inl ⟨den_non.mp ry, ?_⟩
      exact p.here R _ (by simpa using den_nn hn rx)
  · split at p
    · exact .inr ⟨_, _, den_bl.mp rx, den_bl.mp ry, p.here R _ (by simp)⟩
    · exact p.elim
  · exact p.elim
theorem dIsnot_ok : OpS G (fun x y H Q => (y = .non ∧ Q (.bl (!decide (x = .non))) H) ∨ rNotB x y H Q) (dIsN true) := by
  intro et H h x y v w W Q rx ry R p
  unfold dIsN at p
  split at p
  · split at p
    · refine .inl ⟨den_non.mp ry, ?_⟩
      exact p.here R _ (by simp [den_non.mp rx])
    · rename_i hn
      refine .inl ⟨den_non.mp ry, ?_⟩
      exact p.here R _ (by simpa using den_nn hn rx)
  · split at p
    · exact .inr ⟨_, _, den_bl.mp rx, den_bl.mp ry, p.here R _ (by simp)⟩
    · exact p.elim
  · exact p.elim
end
end NR

set_option Elab.async false
set_option linter.all false
set_option maxRecDepth 100000
/-! Tests, calls, statements. -/
namespace NR
open PySem PySem.Spec PyProof.Rows L2

/-! ### truth, tests -/
def truD (h : IH) : D → Option Bool
  | .non => some false
  | .bl b => some b
  | .int i => some (i != 0)
  | .str s => if s.length ≤ 10000000 then some ((s.length : Int) != 0) else none
  | .tup l => some (!l.isEmpty)
  | .fl l => some (!l.isEmpty)
  | .ref n => match h[n]? with
    | some (.lst xs) => some (!xs.isEmpty)
    | some (.frz xs) => some (!xs.isEmpty)
    | some (.dk kvs) => some (!kvs.isEmpty)
    | _ => none
  | _ => none
theorem empty_iff {G : Cf} {et : List Addr} {H : Hp} {xs : List D} {vs : List V} (r : DenL G et H xs vs) : xs.isEmpty = vs.isEmpty := by
  have := r.len
  cases xs <;> cases vs <;> simp at this ⊢
theorem tru_okD {G : Cf} {et : List Addr} {H : Hp} {h : IH} (R : HRel G et h H) {d : D} {v : V} {b : Bool} (e : truD h d = some b) (r : Den G et H d v) : TruV G.K v H b := by
  cases d with
  | non => rw [den_non.mp r]; simp only [truD, Option.some.injEq] at e; exact e.symm
  | bl c => rw [den_bl.mp r]; simp only [truD, Option.some.injEq] at e; exact e.symm
  | int c => rw [den_int.mp r]; simp only [truD, Option.some.injEq] at e; exact e.symm
  | str s =>
    rw [den_str.mp r]
    simp only [truD] at e
    split at e
    · rename_i c
      cases e
      exact ⟨by rw [strV_length]; exact sz c, by rw [strV_length]⟩
    · cases e
  | tup l =>
    obtain ⟨a, vs, rfl, h1, h2⟩ := den_tup.mp r
    simp only [truD, Option.some.injEq] at e
    exact .inr (.inl ⟨vs, h1, by rw [← e, empty_iff h2]⟩)
  | ref n =>
    obtain ⟨a, h1, rfl⟩ := den_ref.mp r
    simp only [truD] at e
    split at e
    · rename_i xs hx
      cases e
      obtain ⟨vs, h2, h3⟩ := R.cell n _ a hx h1
      exact .inl ⟨vs, SqL.of h2, by rw [empty_iff h3]⟩
    · rename_i xs hx
      cases e
      obtain ⟨vs, h2, h3⟩ := R.cell n _ a hx h1
      exact .inl ⟨vs, h2.sq, by rw [empty_iff h3]⟩
    · rename_i kvs hx
      cases e
      obtain ⟨ws, h2, h3, h4⟩ := R.cell n _ a hx h1
      refine .inr (.inr ⟨ws, h2, ?_⟩)
      have := congrArg List.length h3
      simp at this
      cases kvs <;> cases ws <;> simp at this ⊢
    · cases e
  | fl l =>
    obtain ⟨a, vs, rfl, h1, h2⟩ := den_fl.mp r
    simp only [truD, Option.some.injEq] at e
    exact .inl ⟨vs, h1.sq, by rw [← e, empty_iff h2]⟩
  | fd ks l => simp [truD] at e
  | exc a => simp [truD] at e
def R.ofO {A : Type} (o : Option A) (h : IH) : R A := match o with
  | some a => .ok a h
  | none => .no
def mTr (m : ME) : MT := fun env h => (m env h).bind fun d h1 => R.ofO (truD h1 d) h1
def mTb (m : ME) : MT := fun env h => (m env h).bind fun d h1 => R.ofO d.bl? h1
def mAnd (a b : MT) : MT := fun env h => (a env h).bind fun c h1 => if c = true then b env h1 else .ok false h1
def mOr (a b : MT) : MT := fun env h => (a env h).bind fun c h1 => if c = true then .ok true h1 else b env h1
def mNot (a : MT) : MT := fun env h => (a env h).bind fun c h1 => .ok (!c) h1
def mAndV (a b : ME) : ME := fun env h => (a env h).bind fun x h1 => match x with
  | .bl true => b env h1
  | .bl false => .ok (.bl false) h1
  | _ => .no
def mOrV (a b : ME) : ME := fun env h => (a env h).bind fun x h1 => match x with
  | .bl true => .ok (.bl true) h1
  | .bl false => b env h1
  | _ => .no
def mNotV (a : ME) : ME := fun env h => (a env h).bind fun x h1 => match x with
  | .bl b => .ok (.bl (!b)) h1
  | _ => .no
def mIf (t : MT) (a b : ME) : ME := fun env h => (t env h).bind fun c h1 => if c = true then a env h1 else b env h1
def mChain (f g : D → D → IH → R D) (a b c : ME) : ME := fun env h => (a env h).bind fun x h1 => (b env h1).bind fun y h2 => (f x y h2).bind fun z h3 => match z with
  | .bl true => (c env h3).bind fun w h4 => g y w h4
  | .bl false => .ok (.bl false) h3
  | _ => .no
section
variable {X : Cx} {G : Cf} {W : WX} {a b c e : Expr} {ma mb mc : ME} {ta tb : MT} {pos : Pos} {rest : List Expr} {r r' : R2} {f g : D → D → IH → R D}
theorem mt_val (hK : X.K = G.K) (h : PE X a (tE G W ma)) (he : ∀ whole, isTrue a X.env whole = (do let v ← whole; standAt a.pos; holding [v] (truthy v)) := by intro _; rfl) : PT X a (tT G W (mTr ma)) :=
  PT.imp (pt_truth h he) fun σ H Q ⟨et, env, h, hE, hH, hP⟩ => by
    refine ⟨et, env, h, hE, hH, (Pst.of_bind hP).imp fun et1 H1 h1 d p e hr q v hv => ?_⟩
    cases ht : truD h1 d with
    | none => simp only [ht, R.ofO] at q; exact q.elim
    | some k =>
      simp only [ht, R.ofO] at q
      rw [hK]
      exact ⟨k, tru_okD hr ht hv, q.here hr⟩
theorem mt_cmp {op : CmpOp} (ho : OpR X (compareOp op) r) (hs : OpS G r f) (ha : PE X a (tE G W ma)) (hb : PE X b (tE G W mb)) (hm : behindInMarks op b = false := by first | exact nomark _ | rfl) : PT X (.Compare a [op] [b] pos) (tT G W (mTb (mOp f ma mb))) :=
  PT.imp (pt_cmpR ho ha hb hm) fun σ H Q ⟨et, env, h, hE, hH, hP⟩ => by
    refine tOp_of hs ⟨et, env, h, hE, hH, (Pst.of_bind hP).imp fun et1 H1 h1 d p e hr q v hv => ?_⟩
    cases d with
    | bl k => exact ⟨k, den_bl.mp hv, q.here hr⟩
    | _ => exact q.elim
theorem tChain_of {σ : L2.St} {H : Hp} {Q : VK} (hs : OpS G r f) (hs' : OpS G r' g) (x : tE G W (mChain f g ma mb mc) σ H Q) : tChain r r' (tE G W ma) (tE G W mb) (tE G W mc) σ H Q := by
  obtain ⟨et, env, h, hE, hH, hP⟩ := x
  refine ⟨et, env, h, hE, hH, (Pst.of_bind hP).imp fun et1 H1 h1 x p e hr q v hv => ?_⟩
  refine ⟨et1, env, h1, hE.mono p e, hr, (Pst.of_bind q).imp fun et2 H2 h2 y p2 e2 hr2 q2 w hw => ?_⟩
  refine hs et2 H2 h2 x y v w _ _ (hv.mono p2 e2) hw hr2 ((Pst.of_bind q2).imp fun et3 H3 h3 z p3 e3 hr3 q3 vz hz => ?_)
  cases z with
  | bl k =>
    refine ⟨k, den_bl.mp hz, ?_⟩
    cases k with
    | true =>
      rw [if_pos rfl]
      refine ⟨et3, env, h3, ((hE.mono p e).mono p2 e2).mono p3 e3, hr3, (Pst.of_bind q3).imp fun et4 H4 h4 u p4 e4 hr4 q4 vu hu => ?_⟩
      exact hs' et4 H4 h4 y u w vu _ Q ((hw.mono p3 e3).mono p4 e4) hu hr4 q4
    | false =>
      rw [if_neg Bool.false_ne_true]
      exact q3.here hr3 _ (by simp)
  | _ => exact q3.elim
theorem me_chain {op op' : CmpOp} (ho : OpR X (compareOp op) r) (hs : OpS G r f) (ho' : OpR X (compareOp op') r') (hs' : OpS G r' g) (ha : PE X a (tE G W ma)) (hb : PE X b (tE G W mb)) (hc : PE X c (tE G W mc)) (hm : lastMarks [op, op'] [b, c] = false := by rfl) :
    PE X (.Compare a [op, op'] [b, c] pos) (tE G W (mChain f g ma mb mc)) := PE.imp (pe_chain ho ho' ha hb hc hm) fun _ _ _ x => tChain_of hs hs' x
theorem mt_chain {op op' : CmpOp} (ho : OpR X (compareOp op) r) (hs : OpS G r f) (ho' : OpR X (compareOp op') r') (hs' : OpS G r' g) (ha : PE X a (tE G W ma)) (hb : PE X b (tE G W mb)) (hc : PE X c (tE G W mc)) (hm : lastMarks [op, op'] [b, c] = false := by rfl) :
    PT X (.Compare a [op, op'] [b, c] pos) (tT G W (mTb (mChain f g ma mb mc))) := PT.imp (pt_chain ho ho' ha hb hc hm) fun σ H Q ⟨et, env, h, hE, hH, hP⟩ => by
    refine tChain_of hs hs' ⟨et, env, h, hE, hH, (Pst.of_bind hP).imp fun et1 H1 h1 d p e hr q v hv => ?_⟩
    cases d with
    | bl k => exact ⟨k, den_bl.mp hv, q.here hr⟩
    | _ => exact q.elim
theorem tAnd_of {σ : L2.St} {H : Hp} {Q : Bool → Hp → Prop} (x : tT G W (mAnd ta tb) σ H Q) : tAnd (tT G W ta) (tT G W tb) σ H Q := by
  obtain ⟨et, env, h, hE, hH, hP⟩ := x
  refine ⟨et, env, h, hE, hH, (Pst.of_bind hP).imp fun et1 H1 h1 k p e hr q => ?_⟩
  cases k with
  | true =>
    rw [if_pos rfl] at q ⊢
    exact ⟨et1, env, h1, hE.mono p e, hr, q⟩
  | false =>
    rw [if_neg Bool.false_ne_true] at q ⊢
    exact q.here hr
theorem tOr_of {σ : L2.St} {H : Hp} {Q : Bool → Hp → Prop} (x : tT G W (mOr ta tb) σ H Q) : tOr (tT G W ta) (tT G W tb) σ H Q := by
  obtain ⟨et, env, h, hE, hH, hP⟩ := x
  refine ⟨et, env, h, hE, hH, (Pst.of_bind hP).imp fun et1 H1 h1 k p e hr q => ?_⟩
  cases k with
  | true =>
    rw [if_pos rfl] at q ⊢
    exact q.here hr
  | false =>
    rw [if_neg Bool.false_ne_true] at q ⊢
    exact ⟨et1, env, h1, hE.mono p e, hr, q⟩
theorem mw_and1 (ha : PT X a (tT G W ta)) : PW X (.BoolOp .And [a] pos) (tT G W ta) := pw_and1 ha
theorem mw_or1 (ha : PT X a (tT G W ta)) : PW X (.BoolOp .Or [a] pos) (tT G W ta) := pw_or1 ha
theorem mw_and (ha : PT X a (tT G W ta)) (hb : PW X (.BoolOp .And (b :: rest) pos) (tT G W tb)) : PW X (.BoolOp .And (a :: b :: rest) pos) (tT G W (mAnd ta tb)) := PW.imp (pw_and ha hb) fun _ _ _ x => tAnd_of x
theorem mw_or (ha : PT X a (tT G W ta)) (hb : PW X (.BoolOp .Or (b :: rest) pos) (tT G W tb)) : PW X (.BoolOp .Or (a :: b :: rest) pos) (tT G W (mOr ta tb)) := PW.imp (pw_or ha hb) fun _ _ _ x => tOr_of x
theorem mt_not (ha : PT X a (tT G W ta)) : PT X (.UnaryOp .Not a pos) (tT G W (mNot ta)) := PT.imp (pt_not ha) fun σ H Q ⟨et, env, h, hE, hH, hP⟩ =>
  ⟨et, env, h, hE, hH, (Pst.of_bind hP).imp fun et1 H1 h1 k p e hr q => q.here hr⟩
theorem me_one {op} (h : PE X a (tE G W ma)) : PE X (.BoolOp op [a] pos) (tE G W ma) := pe_one h
theorem me_and (ha : PE X a (tE G W ma)) (hb : PE X (.BoolOp .And (b :: rest) pos) (tE G W mb)) : PE X (.BoolOp .And (a :: b :: rest) pos) (tE G W (mAndV ma mb)) := PE.imp (pe_and ha hb) fun σ H Q ⟨et, env, h, hE, hH, hP⟩ => by
  refine ⟨et, env, h, hE, hH, (Pst.of_bind hP).imp fun et1 H1 h1 d p e hr q v hv => ?_⟩
  cases d with
  | bl k =>
    refine ⟨k, den_bl.mp hv, ?_⟩
    cases k with
    | true => rw [if_pos rfl]; exact ⟨et1, env, h1, hE.mono p e, hr, q⟩
    | false => rw [if_neg Bool.false_ne_true]; exact q.here hr _ (by simp)
  | _ => exact q.elim
theorem me_or (ha : PE X a (tE G W ma)) (hb : PE X (.BoolOp .Or (b :: rest) pos) (tE G W mb)) : PE X (.BoolOp .Or (a :: b :: rest) pos) (tE G W (mOrV ma mb)) := PE.imp (pe_or ha hb) fun σ H Q ⟨et, env, h, hE, hH, hP⟩ => by
  refine ⟨et, env, h, hE, hH, (Pst.of_bind hP).imp fun et1 H1 h1 d p e hr q v hv => ?_⟩
  cases d with
  | bl k =>
    refine ⟨k, den_bl.mp hv, ?_⟩
    cases k with
    | true => rw [if_pos rfl]; exact q.here hr _ (by simp)
    | false => rw [if_neg Bool.false_ne_true]; exact ⟨et1, env, h1, hE.mono p e, hr, q⟩
  | _ => exact q.elim
theorem me_not (ha : PE X a (tE G W ma)) : PE X (.UnaryOp .Not a pos) (tE G W (mNotV ma)) := PE.imp (pe_not ha) fun σ H Q ⟨et, env, h, hE, hH, hP⟩ => by
  refine ⟨et, env, h, hE, hH, (Pst.of_bind hP).imp fun et1 H1 h1 d p e hr q v hv => ?_⟩
  cases d with
  | bl k => exact ⟨k, den_bl.mp hv, q.here hr _ (by simp)⟩
  | _ => exact q.elim
theorem me_ifExp (hc : PT X c (tT G W ta)) (ha : PE X a (tE G W ma)) (hb : PE X b (tE G W mb)) : PE X (.IfExp c a b pos) (tE G W (mIf ta ma mb)) := PE.imp (pe_ifExp hc ha hb) fun σ H Q ⟨et, env, h, hE, hH, hP⟩ => by
  refine ⟨et, env, h, hE, hH, (Pst.of_bind hP).imp fun et1 H1 h1 k p e hr q => ?_⟩
  cases k with
  | true => rw [if_pos rfl] at q ⊢; exact ⟨et1, env, h1, hE.mono p e, hr, q⟩
  | false => rw [if_neg Bool.false_ne_true] at q ⊢; exact ⟨et1, env, h1, hE.mono p e, hr, q⟩
def mNeg (a : ME) : ME := fun env h => (a env h).bind fun x h1 => match x with
  | .int i => .ok (.int (-i)) h1
  | _ => .no
theorem me_neg (ha : PE X a (tE G W ma)) : PE X (.UnaryOp .USub a pos) (tE G W (mNeg ma)) := PE.imp (pe_un un_neg ha) fun σ H Q ⟨et, env, h, hE, hH, hP⟩ => by
  refine ⟨et, env, h, hE, hH, (Pst.of_bind hP).imp fun et1 H1 h1 d p e hr q v hv => ?_⟩
  cases d with
  | int k => exact ⟨k, den_int.mp hv, q.here hr _ (by simp)⟩
  | _ => exact q.elim
end

/-! ### arguments, displays -/
def mNil : MA := fun _ h => .ok [] h
def mCons (a : ME) (t : MA) : MA := fun env h => (a env h).bind fun x h1 => (t env h1).bind fun xs h2 => .ok (x :: xs) h2
def mTup (t : MA) : ME := fun env h => (t env h).bind fun xs h1 => if xs.length ≤ 10000000 then .ok (.tup xs) h1 else .no
def mLst (t : MA) : ME := fun env h => (t env h).bind fun xs h1 => if xs.length ≤ 10000000 then .ok (.ref h1.length) (h1 ++ [.lst xs]) else .no
section
variable {X : Cx} {G : Cf} {W : WX} {a b c e : Expr} {es : List Expr} {ma mb mc : ME} {mt : MA} {pos : Pos}
theorem ma_nil : PA X [] (tA G W mNil) := PA.imp pa_nil fun σ H Q ⟨et, env, h, hE, hH, hP⟩ => hP.here hH [] (by simp)
theorem ma_cons (he : PE X e (tE G W ma)) (h : PA X es (tA G W mt)) (hs : starEach (e :: es) X.env = (false, eval e X.env) :: starEach es X.env := by rfl) : PA X (e :: es) (tA G W (mCons ma mt)) := PA.imp (pa_cons he h hs) fun σ H Q ⟨et, env, h, hE, hH, hP⟩ => by
  refine ⟨et, env, h, hE, hH, (Pst.of_bind hP).imp fun et1 H1 h1 x p e hr q v hv => ?_⟩
  refine ⟨et1, env, h1, hE.mono p e, hr, (Pst.of_bind q).imp fun et2 H2 h2 xs p2 e2 hr2 q2 ws hw => ?_⟩
  exact q2.here hr2 _ (denL_cons.mpr ⟨v, ws, rfl, hv.mono p2 e2, hw⟩)
theorem me_tup {k : Nat} (h : PA X es (tA G W mt)) : PE X (.Tuple es k pos) (tE G W (mTup mt)) := PE.imp (pe_tup h) fun σ H Q ⟨et, env, h, hE, hH, hP⟩ => by
  refine ⟨et, env, h, hE, hH, (Pst.of_bind hP).imp fun et1 H1 h1 xs p e hr q vs hv => ?_⟩
  split at q
  · rename_i l
    exact ⟨sz (by rw [hv.len]; exact l), q.newT hr hv⟩
  · exact q.elim
theorem me_lst (h : PA X es (tA G W mt)) : PE X (.List es pos) (tE G W (mLst mt)) := PE.imp (pe_lst h) fun σ H Q ⟨et, env, h, hE, hH, hP⟩ => by
  refine ⟨et, env, h, hE, hH, (Pst.of_bind hP).imp fun et1 H1 h1 xs p e hr q vs hv => ?_⟩
  split at q
  · rename_i l
    exact ⟨sz (by rw [hv.len]; exact l), q.newL hr hv⟩
  · exact q.elim
end

/-! ### defs and their calls -/
def FSp (G : Cf) (n : Nat) (fm : MF) : Sp := fun vs H Q E => vs.length = n ∧ ∃ et ds h, DenL G et H ds vs ∧ HRel G et h H ∧
  Pst G et H (fm ds h) (fun et' H' _ d => ∀ v, Den G et' H' d v → Q v H') E
/-- the old cells are as they were, or tell of old cells alone -/
def okB (k : Nat) : IH → IH → Prop
  | [], _ => True
  | c :: cs, c' :: cs' => (c' = c ∨ Cell.lo k c' = true) ∧ okB k cs cs'
  | _ :: _, [] => False
def xfLo (n : Nat) : XF → Bool
  | none => true
  | some fs => D.loL n (fs.map (·.2))
open Classical in
noncomputable def clean (h : IH) (r : R D) : R D := match r with
  | .ok d h' => if d.lo h.length = true ∧ okB h.length h h' then .ok d (h'.take h.length) else .ok d h'
  | .ex c d h' => if xfLo h.length d = true ∧ okB h.length h h' then .ex c d (h'.take h.length) else .ex c d h'
  | .no => .no
theorem okB_get {k : Nat} : ∀ {h h' : IH} {n : Nat} {c : Cell}, okB k h h' → n < h.length → h'[n]? = some c → h[n]? = some c ∨ Cell.lo k c = true
  | [], _, n, _, _, l, _ => absurd l (Nat.not_lt_zero n)
  | _ :: _, [], _, _, o, _, _ => o.elim
  | c :: cs, c' :: cs', 0, d, o, _, e => by
    simp at e
    subst e
    rcases o.1 with h | h
    · exact .inl (by simp [h])
    · exact .inr h
  | c :: cs, c' :: cs', n + 1, d, o, l, e => by
    have := okB_get o.2 (n := n) (by simpa using l) (by simpa using e)
    simpa using this
theorem okB_len {k : Nat} : ∀ {h h' : IH}, okB k h h' → h.length ≤ h'.length
  | [], _, _ => Nat.zero_le _
  | _ :: _, [], o => o.elim
  | c :: cs, c' :: cs', o => by have := okB_len o.2; simp; omega
theorem HRel.lo {G : Cf} {et : List Addr} {h : IH} {H : Hp} (R : HRel G et h H) {n : Nat} {c : Cell} (e : h[n]? = some c) : Cell.lo et.length c = true := by
  obtain ⟨a, ha⟩ := R.addr e
  exact (R.cell n c a e ha).lo
theorem okB_all {G : Cf} {et : List Addr} {h h' : IH} {H : Hp} (R : HRel G et h H) (o : okB h.length h h') : (h'.take et.length).all (Cell.lo et.length) = true := by
  rw [List.all_eq_true]
  intro c hc
  obtain ⟨n, hn⟩ := List.mem_iff_getElem?.mp hc
  have hl : n < et.length := by
    have := (List.getElem?_eq_some_iff.mp hn).1
    rw [List.length_take] at this
    omega
  rw [List.getElem?_take_of_lt hl] at hn
  rw [R.len] at hl ⊢
  rcases okB_get o hl hn with h1 | h1
  · have := R.lo h1
    rw [R.len] at this
    exact this
  · exact h1
theorem HRel.cut {G : Cf} {et et' : List Addr} {h' : IH} {H : Hp} (p : et <+: et') (R : HRel G et' h' H) (c : (h'.take et.length).all (Cell.lo et.length) = true) : HRel G et (h'.take et.length) H := by
  obtain ⟨t, rfl⟩ := p
  have lt : ∀ {n : Nat} {c : Cell}, (h'.take et.length)[n]? = some c → n < et.length ∧ h'[n]? = some c := fun {n c} e => by
    by_cases hn : n < et.length
    · rw [List.getElem?_take_of_lt hn] at e
      exact ⟨hn, e⟩
    · rw [List.getElem?_eq_none (by rw [List.length_take]; omega)] at e
      cases e
  have al : ∀ {n : Nat} {a : Addr}, et[n]? = some a → (et ++ t)[n]? = some a := fun {n a} e => by
    rw [List.getElem?_append_left (List.getElem?_eq_some_iff.mp e).1]
    exact e
  refine ⟨?_, fun n m c1 c2 a h1 h2 h3 h4 f1 f2 => R.nd n m c1 c2 a (lt h1).2 (lt h2).2 (al h3) (al h4) f1 f2, fun n c1 a h1 h2 => ?_⟩
  · have := R.len
    rw [List.length_append] at this
    rw [List.length_take]
    omega
  · have hm : c1 ∈ h'.take et.length := List.mem_of_getElem? h1
    exact (R.cell n c1 a (lt h1).2 (al h2)).back (List.prefix_append _ _) (List.all_eq_true.mp c c1 hm)
theorem Pst.cleaned {G : Cf} {et : List Addr} {H : Hp} {h : IH} {r : R D} {Q : VK} {W : Value → Option Addr → Hp → Prop} (R : HRel G et h H) (x : Pst G et H (clean h r) (fun et' H' _ d => ∀ v, Den G et' H' d v → Q v H') W) :
    Pst G et H r (fun et' H' _ d => ∀ v, Den G et' H' d v → Q v H') W := by
  cases r with
  | no => exact x
  | ok d h' =>
    simp only [clean] at x
    split at x
    · rename_i c
      intro et' H' p e hr v hv
      have al := okB_all R c.2
      have c1 := c.1
      rw [← R.len] at c1 x
      exact x et H' List.prefix_rfl e (hr.cut p al) v (hv.back p c1)
    · exact x
  | ex c d h' =>
    simp only [clean] at x
    split at x
    · rename_i c
      intro et' H' cls dd p e hr hx
      have al := okB_all R c.2
      have c1 := c.1
      rw [← R.len] at c1 x
      refine x et H' cls dd List.prefix_rfl e (hr.cut p al) ⟨hx.1, ?_⟩
      have h2 := hx.2
      cases d with
      | none => exact h2
      | some fs =>
        obtain ⟨a, ws, q1, q2, q3, q4⟩ := h2
        exact ⟨a, ws, q1, q2, q3, q4.back p c1⟩
    · exact x
noncomputable def callC (n : Nat) (fm : MF) (ds : List D) (h : IH) : R D := if ds.length = n then clean h (fm ds h) else .no
noncomputable def mCall (n : Nat) (fm : MF) (a : MA) : ME := fun env h => (a env h).bind fun ds h1 => callC n fm ds h1
section
variable {X : Cx} {G : Cf} {W : WX} {k n : Nat} {f : Addr} {fd : FuncData} {ps : List Str} {fm : MF} {x : Str} {p pos : Pos} {e : Expr} {es : List Expr} {mt : MA}
theorem FSp.of_call {ds : List D} {vs : List V} {et : List Addr} {H : Hp} {h : IH} {Q : VK} {W0 : XK} (hv : DenL G et H ds vs) (hr : HRel G et h H) (q : Pst G et H (callC n fm ds h) (fun et' H' _ d => ∀ v, Den G et' H' d v → Q v H') W0) : FSp G n fm vs H Q W0 := by
  unfold callC at q
  split at q
  · rename_i l
    exact ⟨by rw [hv.len]; exact l, et, ds, h, hv, hr, q.cleaned hr⟩
  · exact q.elim
theorem me_call (F : FnOk X.prog X.w X.K X.mg X.base (L2.CX X.prog X.w) k f fd ps (FSp G n fm)) (hr : Room k X.A) (hm : X.mg x = some (.ref f)) (hk : PySem.W.keepIn X.K (.ref f) = true) (hb : Binds X.K fd ps []) (tk : Takes X W)
    (ha : PA X (e :: es) (tA G W mt)) (hg : Gl X x := by rfl) (hdb : (x == ("__debug__" : Str)) = false := by decide) (he : starEach (e :: es) X.env = (false, eval e X.env) :: starEach es X.env := by rfl) (hpl : (backTo pos (starEach es X.env)).any (·.1) = false := by rfl) :
    PE X (.Call (.Name x p) (e :: es) [] pos) (tE G W (mCall n fm mt)) := PE.imp (pe_callS F hr hg hm hk hb (passAt tk) ha hdb he hpl) fun σ H Q ⟨et, env, h, hE, hH, hP⟩ =>
  ⟨et, env, h, hE, hH, (Pst.of_bind hP).imp fun et1 H1 h1 ds p e hr q vs hv => FSp.of_call hv hr q⟩
theorem me_call0 (F : FnOk X.prog X.w X.K X.mg X.base (L2.CX X.prog X.w) k f fd ps (FSp G n fm)) (hr : Room k X.A) (hm : X.mg x = some (.ref f)) (hk : PySem.W.keepIn X.K (.ref f) = true) (hb : Binds X.K fd ps []) (tk : Takes X W)
    (hg : Gl X x := by rfl) (hdb : (x == ("__debug__" : Str)) = false := by decide) : PE X (.Call (.Name x p) [] [] pos) (tE G W (mCall n fm mNil)) := by
  refine ⟨fun pins s σ H Q I ⟨et, env, h, hE, hH, hP⟩ => ?_⟩
  refine wpAny_Call_Name_kw (ld_glob I hg hm ?_ hdb)
  exact PySem.W.callWith_K0 I.kIn hk (run_fnS (us := []) F hr hb (passAt tk σ) I .nil (FSp.of_call (by simp) hH hP))
end

/-! ### statements -/
def RS.fin : RS → R D
  | .nx _ h => .ok .non h
  | .rt d h => .ok d h
  | .ex c d _ h => .ex c d h
  | _ => .no
def fnM (n : Nat) (m : MS) : MF := fun ds h => (m (ds.map some ++ List.replicate (n - ds.length) none) h).fin
theorem EnvR.start {G : Cf} {et : List Addr} {H : Hp} {ds : List D} {vs : List V} (r : DenL G et H ds vs) (N : List Str) : EnvR G et H (ds.map some ++ List.replicate (N.length - ds.length) none) (start N vs) := by
  have hl := r.len
  refine ⟨by unfold L2.start; simp [hl], fun i d e => ?_⟩
  by_cases hi : i < ds.length
  · rw [List.getElem?_append_left (by simpa using hi), List.getElem?_map] at e
    cases h1 : ds[i]? with
    | none => rw [h1] at e; cases e
    | some d' =>
      rw [h1] at e
      cases e
      obtain ⟨v, h2, h3⟩ := r.get h1
      refine ⟨v, ?_, h3⟩
      unfold L2.start
      rw [List.getElem?_append_left (by simp; omega), List.getElem?_map, h2]
      rfl
  · rw [List.getElem?_append_right (by simpa using hi)] at e
    have := List.mem_of_getElem? e
    simp at this
section
variable {P : Program} {w : World} {K : PySem.W.Frag} {mg : Str → Option Value} {base : Heap} {G : Cf}
theorem fnPM {x qual : Str} {st : Stmt} {f : Addr} {fd : FuncData} {N ps : List Str} {k n : Nat} {m : MS} (F : Fun K x qual st f fd) (S : FnScope N ps (defScope st)) (hn : ps.length = n)
    (hb : ∀ (cdv : Value) (A : Around) (outer : List PySem.Env) (s : Shared) (H : Hp) (E : XK), Room k (A.deeper (envOfC qual (defScope st) s.heap.objs.size f cdv)) →
      Takes (cxOf (L2.CX P w) P w K mg base N qual (defScope st) f cdv A outer s H E) (fun c d _ H => E c d H) → PassesOwn (model P w) (cxOf (L2.CX P w) P w K mg base N qual (defScope st) f cdv A outer s H E).A (cxOf (L2.CX P w) P w K mg base N qual (defScope st) f cdv A outer s H E).env (cxOf (L2.CX P w) P w K mg base N qual (defScope st) f cdv A outer s H E).xe →
      PSs (cxOf (L2.CX P w) P w K mg base N qual (defScope st) f cdv A outer s H E) (defBody st) (tS G (fun c d _ H => E c d H) m)) : FnOk P w K mg base (L2.CX P w) (k + 1) f fd ps (FSp G n (fnM N.length m)) := by
  refine F.okX S (fun vs H Q E h => h.1.trans hn.symm) fun cdv A outer s H vs Q E hr ⟨hl, et, ds, h, hv, hH, hP⟩ => ⟨_, hb cdv A outer s H E hr (takes_of rfl rfl rfl rfl) (passes_of rfl), ?_⟩
  refine ⟨et, _, h, EnvR.start hv N, hH, ?_⟩
  unfold fnM at hP
  revert hP
  generalize m (ds.map some ++ List.replicate (N.length - ds.length) none) h = r
  intro hP
  cases r with
  | nx e h1 => exact fun et' H' σ' p ex hr _ => hP et' H' p ex hr _ (by simp)
  | rt d h1 => exact fun et' H' v p ex hr hv => hP et' H' p ex hr v hv
  | ex c d e h1 => exact fun et' H' σ' cls dd p ex hr _ hx => hP et' H' cls dd p ex hr hx
  | bk e h1 => exact hP.elim
  | ct e h1 => exact hP.elim
  | no => exact hP.elim
end
end NR

set_option Elab.async false
set_option linter.all false
set_option maxRecDepth 100000
/-! Statements, loops. -/
namespace NR
open PySem PySem.Spec PyProof.Rows L2

def RS.then (r : RS) (k : EV → IH → RS) : RS := match r with
  | .nx e h => k e h
  | r => r
def msNil : MS := fun env h => .nx env h
def msCons (a b : MS) : MS := fun env h => (a env h).then b
def msRet (m : ME) : MS := fun env h => (m env h).bindS env fun d h1 => .rt d h1
def msRetN : MS := fun _ h => .rt .non h
def msIf (t : MT) (a b : MS) : MS := fun env h => (t env h).bindS env fun c h1 => if c = true then a env h1 else b env h1
def msSet (i : Nat) (m : ME) : MS := fun env h => (m env h).bindS env fun d h1 => .nx (env.set i (some d)) h1
def msExpr (m : ME) : MS := fun env h => (m env h).bindS env fun _ h1 => .nx env h1
def msBreak : MS := fun env h => .bk env h
def msCont : MS := fun env h => .ct env h
def msNo : MS := fun _ _ => .no

section
variable {G : Cf} {et et' : List Addr} {H H' : Hp} {h h' : IH} {env : EV} {σ : L2.St} {D0 : Ends} {W : WX} {A : Type}
/-- behind an expression, a statement goes on -/
theorem PstS.of_bind {r : R A} {k : A → IH → RS} (hE : EnvR G et H env σ) (x : PstS G et H (r.bindS env k) D0 W) :
    Pst G et H r (fun et1 H1 h1 a => PstS G et1 H1 (k a h1) D0 W) (fun c d H' => W c d σ H') := by
  cases r with
  | ok a h1 =>
    intro et1 H1 p e hr
    have y : PstS G et H (k a h1) D0 W := x
    show PstS G et1 H1 (k a h1) D0 W
    cases hk : k a h1 with
    | nx b h2 => rw [hk] at y; exact fun et2 H2 σ' p2 e2 hr2 => y et2 H2 σ' (p.trans p2) (e.trans e2) hr2
    | bk b h2 => rw [hk] at y; exact fun et2 H2 σ' p2 e2 hr2 => y et2 H2 σ' (p.trans p2) (e.trans e2) hr2
    | ct b h2 => rw [hk] at y; exact fun et2 H2 σ' p2 e2 hr2 => y et2 H2 σ' (p.trans p2) (e.trans e2) hr2
    | rt b h2 => rw [hk] at y; exact fun et2 H2 v p2 e2 hr2 => y et2 H2 v (p.trans p2) (e.trans e2) hr2
    | ex c d b h2 => rw [hk] at y; exact fun et2 H2 σ' cls dd p2 e2 hr2 => y et2 H2 σ' cls dd (p.trans p2) (e.trans e2) hr2
    | no => rw [hk] at y; exact y
  | ex c d h1 => exact fun et1 H1 cls dd p e hr hx => x et1 H1 σ cls dd p e hr (hE.mono p e) hx
  | no => exact x
theorem PstS.weak {r : RS} (p : et <+: et') (e : Ext H H') (x : PstS G et H r D0 W) : PstS G et' H' r D0 W := by
  cases r with
  | nx b h2 => exact fun et2 H2 σ' p2 e2 hr2 => x et2 H2 σ' (p.trans p2) (e.trans e2) hr2
  | bk b h2 => exact fun et2 H2 σ' p2 e2 hr2 => x et2 H2 σ' (p.trans p2) (e.trans e2) hr2
  | ct b h2 => exact fun et2 H2 σ' p2 e2 hr2 => x et2 H2 σ' (p.trans p2) (e.trans e2) hr2
  | rt b h2 => exact fun et2 H2 v p2 e2 hr2 => x et2 H2 v (p.trans p2) (e.trans e2) hr2
  | ex c d b h2 => exact fun et2 H2 σ' cls dd p2 e2 hr2 => x et2 H2 σ' cls dd (p.trans p2) (e.trans e2) hr2
  | no => exact x
end

section
variable {X : Cx} {G : Cf} {W : WX} {st : Stmt} {rest : List Stmt} {a b : MS} {e c : Expr} {me : ME} {mt : MT} {pos : Pos}
theorem mss_nil : PSs X [] (tS G W msNil) := PSs.imp pss_nil fun D σ H ⟨et, env, h, hE, hH, hP⟩ => hP et H σ List.prefix_rfl (Ext.refl H) hH hE
theorem mss_cons (h1 : PS X st (tS G W a)) (h2 : PSs X rest (tS G W b)) : PSs X (st :: rest) (tS G W (msCons a b)) := PSs.imp (pss_cons h1 h2) fun D σ H ⟨et, env, h, hE, hH, hP⟩ => by
  refine ⟨et, env, h, hE, hH, ?_⟩
  unfold msCons at hP
  revert hP
  generalize a env h = r
  intro hP
  cases r with
  | nx e1 h1 => exact fun et' H' σ' p e hr hE' => ⟨et', e1, h1, hE', hr, PstS.weak p e hP⟩
  | bk b h2 => exact hP
  | ct b h2 => exact hP
  | rt b h2 => exact hP
  | ex c d b h2 => exact hP
  | no => exact hP
theorem mss_one (h1 : PS X st (tS G W a)) : PSs X [st] (tS G W a) := pss_one h1
theorem ms_pass : PS X (.Pass pos) (tS G W msNil) := PS.imp ps_pass fun D σ H ⟨et, env, h, hE, hH, hP⟩ => hP et H σ List.prefix_rfl (Ext.refl H) hH hE
theorem ms_doc {x : Str} {j : Nat} {pos' : Pos} : PS X (.Expr (.Constant (.str x) j pos) pos') (tS G W msNil) := PS.imp ps_doc fun D σ H ⟨et, env, h, hE, hH, hP⟩ => hP et H σ List.prefix_rfl (Ext.refl H) hH hE
theorem ms_break : PS X (.Break pos) (tS G W msBreak) := PS.imp ps_break fun D σ H ⟨et, env, h, hE, hH, hP⟩ => hP et H σ List.prefix_rfl (Ext.refl H) hH hE
theorem ms_continue : PS X (.Continue pos) (tS G W msCont) := PS.imp ps_continue fun D σ H ⟨et, env, h, hE, hH, hP⟩ => hP et H σ List.prefix_rfl (Ext.refl H) hH hE
theorem ms_no : PS X st (tS G W msNo) := PS.imp ps_never fun D σ H ⟨et, env, h, hE, hH, hP⟩ => hP
theorem mss_no {sts : List Stmt} : PSs X sts (tS G W msNo) := PSs.imp pss_never fun D σ H ⟨et, env, h, hE, hH, hP⟩ => hP
theorem ms_ret (he : PE X e (tE G W me)) : PS X (.Return (some e) pos) (tS G W (msRet me)) := PS.imp (ps_ret he) fun D σ H ⟨et, env, h, hE, hH, hP⟩ =>
  ⟨et, env, h, hE, hH, (PstS.of_bind hE hP).imp fun et1 H1 h1 d p e hr q v hv => q et1 H1 v List.prefix_rfl (Ext.refl _) hr hv⟩
theorem ms_retN : PS X (.Return none pos) (tS G W msRetN) := PS.imp ps_retN fun D σ H ⟨et, env, h, hE, hH, hP⟩ => hP et H .non List.prefix_rfl (Ext.refl _) hH (by simp)
theorem ms_if {s1 s2 : List Stmt} (hc : PT X c (tT G W mt)) (ha : PSs X s1 (tS G W a)) (hb : PSs X s2 (tS G W b)) : PS X (.If c s1 s2 pos) (tS G W (msIf mt a b)) := PS.imp (ps_if hc ha hb) fun D σ H ⟨et, env, h, hE, hH, hP⟩ => by
  refine ⟨et, env, h, hE, hH, (PstS.of_bind hE hP).imp fun et1 H1 h1 k p e hr q => ?_⟩
  cases k with
  | true => rw [if_pos rfl] at q ⊢; exact ⟨et1, env, h1, hE.mono p e, hr, q⟩
  | false => rw [if_neg Bool.false_ne_true] at q ⊢; exact ⟨et1, env, h1, hE.mono p e, hr, q⟩
theorem ms_set (i : Nat) {x : Str} {pos' : Pos} (hN : X.N.Nodup) (he : PE X e (tE G W me)) (hi : X.N[i]? = some x := by rfl) (hx : Loc X.env.scope x := by first | exact Or.inl rfl | exact Or.inr rfl) (hs : swapsWith e (some (.Name x pos')) pos.line X.env = pure false := by rfl)
    (hf : X.fn x = true ∨ X.env.scope.names.lookup x = some .local := by first | exact .inl rfl | exact .inr rfl) : PS X (.Assign [.Name x pos'] e pos) (tS G W (msSet i me)) := PS.imp (ps_set hN hi hx he hs hf) fun D σ H ⟨et, env, h, hE, hH, hP⟩ =>
  ⟨et, env, h, hE, hH, (PstS.of_bind hE hP).imp fun et1 H1 h1 d p e hr q v hv => q et1 H1 _ List.prefix_rfl (Ext.refl _) hr ((hE.mono p e).set i hv)⟩
theorem ms_expr (he : PE X e (tE G W me)) (hs : swapsWith e none pos.line X.env = pure false := by rfl) : PS X (.Expr e pos) (tS G W (msExpr me)) := PS.imp (ps_expr he hs) fun D σ H ⟨et, env, h, hE, hH, hP⟩ =>
  ⟨et, env, h, hE, hH, (PstS.of_bind hE hP).imp fun et1 H1 h1 d p e hr q v hv => q et1 H1 σ List.prefix_rfl (Ext.refl _) hr (hE.mono p e)⟩
end

/-! ### op=, stores -/
def msAug (i : Nat) (f : D → D → IH → R D) (m : ME) : MS := fun env h => match env[i]? with
  | some (some x) => (m env h).bindS env fun y h1 => (f x y h1).bindS env fun z h2 => .nx (env.set i (some z)) h2
  | _ => .no
/-- in place: ints, texts, a list that grows -/
def dIAdd : D → D → IH → R D
  | .int i, .int j, h => .ok (.int (i + j)) h
  | .str a, .str b, h => if a.length + b.length ≤ 10000000 then .ok (.str (a ++ b)) h else .no
  | _, _, _ => .no
def dISub : D → D → IH → R D
  | .int i, .int j, h => .ok (.int (i - j)) h
  | _, _, _ => .no
section
variable {X : Cx} {G : Cf} {W : WX} {a b e o i : Expr} {me mo mi : ME} {pos : Pos} {r : R2} {f : D → D → IH → R D}
theorem ms_aug (n : Nat) {x : Str} {op : Operator} {pos' : Pos} (hN : X.N.Nodup) (ho : OpR X (inplaceOp op) r) (hs : OpS G r f) (he : PE X e (tE G W me)) (hi : X.N[n]? = some x := by rfl) (hx : Loc X.env.scope x := by first | exact Or.inl rfl | exact Or.inr rfl)
    (hf : X.fn x = true ∨ X.env.scope.names.lookup x = some .local := by first | exact .inl rfl | exact .inr rfl) : PS X (.AugAssign (.Name x pos') op e pos) (tS G W (msAug n f me)) := PS.imp (ps_aug hN hi hx he (ti := r) ho hf) fun D σ H ⟨et, env, h, hE, hH, hP⟩ => by
  unfold msAug at hP
  split at hP
  · rename_i x0 hx0
    obtain ⟨v0, e0, r0⟩ := hE.2 n x0 hx0
    refine ⟨v0, e0, et, env, h, hE, hH, (PstS.of_bind hE hP).imp fun et1 H1 h1 y p e hr q w hw => ?_⟩
    exact hs et1 H1 h1 x0 y v0 w _ _ (r0.mono p e) hw hr ((PstS.of_bind (hE.mono p e) q).imp fun et2 H2 h2 z p2 e2 hr2 q2 u hu => q2 et2 H2 _ List.prefix_rfl (Ext.refl _) hr2 (((hE.mono p e).mono p2 e2).set n hu))
  · exact hP.elim
theorem iadd_ok : OpS G (fun x y H Q => rI0 (fun i j => .int (i + j)) x y H Q ∨ (∃ i j, x = .str i ∧ y = .str j ∧ i.length + j.length ≤ sizeLine ∧ Q (.str (i ++ j)) H)) dIAdd := by
  intro et H h x y v w W Q rx ry R p
  unfold dIAdd at p
  split at p
  · exact .inl ⟨_, _, den_int.mp rx, den_int.mp ry, p.here R _ (by simp)⟩
  · split at p
    · rename_i c
      refine .inr ⟨_, _, den_str.mp rx, den_str.mp ry, ?_, ?_⟩
      · rw [strV_length, strV_length]; exact sz c
      · exact p.here R _ (by simp [strV_app])
    · exact p.elim
  · exact p.elim
theorem iop_addA : OpR X (inplaceOp .Add) (fun x y H Q => rI0 (fun i j => .int (i + j)) x y H Q ∨ (∃ i j, x = .str i ∧ y = .str j ∧ i.length + j.length ≤ sizeLine ∧ Q (.str (i ++ j)) H)) := OpR.or iop_add iop_add_str
theorem isub_ok : OpS G (rI0 fun i j => .int (i - j)) dISub := by
  intro et H h x y v w W Q rx ry R p
  unfold dISub at p
  split at p
  · exact ⟨_, _, den_int.mp rx, den_int.mp ry, p.here R _ (by simp)⟩
  · exact p.elim
theorem idiv_ok : OpS G (rI CDivW fun i j => .int (i / j)) dDiv := opS_I fun i j c => by
    have c' : 0 < j ∧ j < 2 ^ 64 := by simpa [cDiv] using c
    exact wide_div c'.1 (b := 64) (by omega) (by decide) (by decide)
theorem imod_ok : OpS G (rI (fun _ j => 0 < j) fun i j => .int (i % j)) dMod := opS_I fun i j c => by simpa [cMod] using c
end
/-- the place of an item, from either end -/
def ixD (n : Nat) (i : Int) : Option Nat := ixN n i
/-- o[i] = v: a list's item -/
def putD (o i v : D) (h : IH) : Option IH := match o, i with
  | .ref n, .int k => match h[n]? with
    | some (.lst xs) => (ixN xs.length k).map fun j => h.set n (.lst (xs.set j v))
    | _ => none
  | _, _ => none
def msSetI (mo mi me : ME) : MS := fun env h => (me env h).bindS env fun v h1 => (mo env h1).bindS env fun o h2 => (mi env h2).bindS env fun i h3 => match putD o i v h3 with
  | some h4 => .nx env h4
  | none => .no
section
variable {G : Cf} {et : List Addr} {H : Hp} {h h' : IH}
theorem put_ok (R : HRel G et h H) {o i v : D} {vo vi vv : V} {Q : Hp → Prop} (e : putD o i v h = some h') (ro : Den G et H o vo) (ri : Den G et H i vi) (rv : Den G et H v vv) (q : ∀ H', Ext H H' → HRel G et h' H' → Q H') : rSetL vo vi vv H Q := by
  unfold putD at e
  split at e
  · rename_i n k
    split at e
    · rename_i xs hx
      simp only [Option.map_eq_some_iff] at e
      obtain ⟨j, e1, rfl⟩ := e
      obtain ⟨a, vs, h1, rfl, h2, h3⟩ := den_list R hx ro
      refine ⟨a, vs, k, j, rfl, den_int.mp ri, h2, by rw [h3.len]; exact e1, ?_⟩
      have ex : Ext H (upd H a (.lst (vs.set j vv))) := Ext.mut h2 True.intro
      exact q _ ex (R.set hx h1 rfl h2 True.intro ⟨_, upd_same, (h3.set j rv).mono List.prefix_rfl ex⟩)
    · cases e
  · cases e
end
section
variable {X : Cx} {G : Cf} {W : WX} {a b e o i : Expr} {me mo mi : ME} {pos pos' : Pos} {r : R2} {f : D → D → IH → R D}
theorem ms_setI (he : PE X e (tE G W me)) (ho : PE X o (tE G W mo)) (hi : PE X i (tE G W mi)) (ha : ∀ v, assign (.Subscript o i pos') X.env v = (do
      let ov ← holding [v] (eval o X.env)
      let iv ← holding [v, ov] (eval i X.env)
      standAt pos'
      holding [v, ov, iv] (setItem ov iv v)
      release [v, ov, iv] []) := by intro _; rfl) (hs : swapsWithSole [.Subscript o i pos'] e pos.line X.env = pure false := by rfl) (hw : swappedStores [.Subscript o i pos'] e X.env = pure none := by rfl)
    (h1 : (assignEach [.Subscript o i pos'] X.env).map (·.2) = [assign (.Subscript o i pos') X.env] := by rfl) : PS X (.Assign [.Subscript o i pos'] e pos) (tS G W (msSetI mo mi me)) :=
  PS.imp (ps_asg he (pg_sub ho hi set_list ha) hs hw h1) fun D σ H ⟨et, env, h, hE, hH, hP⟩ => by
    refine ⟨et, env, h, hE, hH, (PstS.of_bind hE hP).imp fun et1 H1 h1 v p e hr q vv hv => ?_⟩
    have hE1 := hE.mono p e
    refine ⟨et1, env, h1, hE1, hr, (PstS.of_bind hE1 q).imp fun et2 H2 h2 o p2 e2 hr2 q2 vo ho => ?_⟩
    have hE2 := hE1.mono p2 e2
    refine ⟨et2, env, h2, hE2, hr2, (PstS.of_bind hE2 q2).imp fun et3 H3 h3 i p3 e3 hr3 q3 vi hi => ?_⟩
    have hE3 := hE2.mono p3 e3
    split at q3
    · rename_i h4 e4
      exact put_ok hr3 e4 (ho.mono p3 e3) hi ((hv.mono p2 e2).mono p3 e3) fun H' ex hr4 => q3 et3 H' σ List.prefix_rfl ex hr4 (hE3.mono List.prefix_rfl ex)
    · exact q3.elim
end
/-- o[i], by values -/
def getD' (o i : D) (h : IH) : R D := match i with
  | .int k => match o with
    | .str s => match (ixN s.length k).bind fun j => s[j]? with
      | some c => if s.length ≤ 10000000 then .ok (.str [c]) h else .no
      | none => .no
    | o => match (seqOf h o).bind fun xs => (ixN xs.length k).bind fun j => xs[j]? with
      | some d => .ok d h
      | none => .no
  | _ => .no
abbrev dIx : D → D → IH → R D := fun o i h => getD' o i h
section
variable {X : Cx} {G : Cf} {W : WX} {a b e o i : Expr} {ma mb me mo mi : ME} {pos pos' : Pos} {r : R2} {f : D → D → IH → R D}
theorem atI_den {et : List Addr} {H : Hp} {xs : List D} {vs : List V} (r : DenL G et H xs vs) {k : Int} {d : D} (e : ((ixN xs.length k).bind fun j => xs[j]?) = some d) : ∃ v, atI vs k = some v ∧ Den G et H d v := by
  simp only [Option.bind_eq_some_iff] at e
  obtain ⟨j, e1, e2⟩ := e
  obtain ⟨v, h1, h2⟩ := r.get e2
  exact ⟨v, by unfold atI; rw [r.len, e1]; exact h1, h2⟩
theorem dIx_ok : OpS G (rIx G.K) dIx := by
  intro et H h x y v w W Q rx ry R p
  unfold dIx getD' at p
  split at p
  · rename_i k
    split at p
    · rename_i s
      split at p
      · rename_i c hc
        split at p
        · rename_i l
          refine .inr (.inr ⟨strV s, k, c, den_str.mp rx, den_int.mp ry, by rw [strV_length]; exact sz l, ?_, p.here R _ (by simp [strV])⟩)
          unfold atI
          simpa [strV] using hc
        · exact p.elim
      · exact p.elim
    · split at p
      · rename_i d hd
        simp only [Option.bind_eq_some_iff] at hd
        obtain ⟨xs, e1, e2⟩ := hd
        obtain ⟨a, vs, rfl, h1, h2⟩ := seq_ok R e1 rx
        obtain ⟨u, e3, r3⟩ := atI_den h2 (k := k) (by simpa only [Option.bind_eq_some_iff] using e2)
        rcases h1 with h1 | h1
        · exact .inl ⟨a, vs, k, u, rfl, den_int.mp ry, h1, e3, p.here R _ r3⟩
        · exact .inr (.inl ⟨a, vs, k, u, rfl, den_int.mp ry, h1, e3, p.here R _ r3⟩)
      · exact p.elim
  · exact p.elim
theorem me_ix (hK : X.K = G.K) (ha : PE X a (tE G W ma)) (hb : PE X b (tE G W mb)) (hs : PlainIx b := by exact fun _ _ => rfl) : PE X (.Subscript a b pos) (tE G W (mOp dIx ma mb)) := by
  refine PE.imp (pe_ix (r := rIx X.K) ix_seq ha hb hs) fun σ H Q x => ?_
  rw [hK]
  exact tOp_of dIx_ok x
/-! slices -/
def cutD (xs : List D) (lo hi : Option Int) : List D := (xs.drop (HT.sIx xs.length 0 lo)).take (HT.sIx xs.length xs.length hi - HT.sIx xs.length 0 lo)
def cutN (xs : List Nat) (lo hi : Option Int) : List Nat := (xs.drop (HT.sIx xs.length 0 lo)).take (HT.sIx xs.length xs.length hi - HT.sIx xs.length 0 lo)
abbrev MO := EV → IH → R (Option Int)
def moNone : MO := fun _ h => .ok none h
def moSome (m : ME) : MO := fun env h => (m env h).bind fun d h1 => match d with
  | .int i => .ok (some i) h1
  | _ => .no
def tO (G : Cf) (W : WX) (m : MO) : TO := fun σ H Q => ∃ et env h, EnvR G et H env σ ∧ HRel G et h H ∧
  Pst G et H (m env h) (fun _ H' _ o => Q o H') (fun c d H' => W c d σ H')
def sliceD (x : D) (lo hi : Option Int) (h : IH) : R D := match x with
  | .str s => if s.length ≤ 10000000 then .ok (.str (cutN s lo hi)) h else .no
  | .tup l => .ok (.tup (cutD l lo hi)) h
  | x => match lstOf h x with
    | some xs => .ok (.ref h.length) (h ++ [.lst (cutD xs lo hi)])
    | none => .no
def mSlice (m : ME) (lo hi : MO) : ME := fun env h => (m env h).bind fun x h1 => (lo env h1).bind fun l h2 => (hi env h2).bind fun u h3 => sliceD x l u h3
def rSlAll (K : PySem.W.Frag) : V → Option Int → Option Int → Hp → VK → Prop := fun x lo hi H Q => rSlL K x lo hi H Q ∨ rSlA K x lo hi H Q ∨ rSlS x lo hi H Q
theorem sl_all : SlR X (rSlAll X.K) := SlR.or sl_list (SlR.or sl_tupA sl_str)
end
end NR

set_option Elab.async false
set_option linter.all false
set_option maxRecDepth 100000
/-! Slices, calls of built-ins, methods, loops. -/
namespace NR
open PySem PySem.Spec PyProof.Rows L2
section
variable {X : Cx} {G : Cf} {W : WX} {a b e o i : Expr} {ma mb me : ME} {mo1 mo2 : MO} {pos pos' p2 : Pos} {lo hi : Option Expr}
theorem moN : PO X none (tO G W moNone) := ⟨fun pins s σ H Q I ⟨et, env, h, hE, hH, hP⟩ => po_none.run pins s σ H Q I (hP.here hH)⟩
theorem moS (he : PE X e (tE G W me)) : PO X (some e) (tO G W (moSome me)) := ⟨fun pins s σ H Q I ⟨et, env, h, hE, hH, hP⟩ => (po_some he).run pins s σ H Q I ⟨et, env, h, hE, hH, (Pst.of_bind hP).imp fun et1 H1 h1 d p e hr q v hv => by
    cases d with
    | int k => exact ⟨k, den_int.mp hv, q.here hr⟩
    | _ => exact q.elim⟩⟩
theorem slice_ok {et : List Addr} {H : Hp} {h : IH} (R : HRel G et h H) {x : D} {vx : V} {l u : Option Int} {Q : VK} {W0 : Value → Option Addr → Hp → Prop} (rx : Den G et H x vx)
    (p : Pst G et H (sliceD x l u h) (fun et' H' _ d => ∀ v, Den G et' H' d v → Q v H') W0) : rSlAll G.K vx l u H Q := by
  unfold sliceD at p
  split at p
  · split at p
    · rename_i s c
      refine .inr (.inr ⟨strV s, den_str.mp rx, by rw [strV_length]; exact sz c, p.here R _ ?_⟩)
      rw [den_str]
      unfold cutS cutN
      rw [strV_length]
      simp [strV]
    · exact p.elim
  · rename_i l0
    obtain ⟨a, vs, rfl, h1, h2⟩ := den_tup.mp rx
    refine .inr (.inl ⟨a, vs, rfl, h1, fun c => ?_, fun _ => ?_⟩)
    · refine p.here R _ (den_tup.mpr ⟨a, vs, rfl, h1, ?_⟩)
      have e : cutD l0 l u = l0 := by
        unfold cutD
        rw [h2.len] at c
        rw [c.1, c.2]
        simp
      rw [e]; exact h2
    · have h3 : DenL G et H (cutD l0 l u) (cutV vs l u) := by
        unfold cutD cutV
        rw [h2.len]
        exact (h2.drop _).take _
      exact p.newT R h3
  · split at p
    · rename_i xs hx
      obtain ⟨a, vs, rfl, h1, h2⟩ := lst_ok R hx rx
      have h3 : DenL G et H (cutD xs l u) (cutV vs l u) := by
        unfold cutD cutV
        rw [h2.len]
        exact (h2.drop _).take _
      exact .inl ⟨a, vs, rfl, h1, p.newL R h3⟩
    · exact p.elim
theorem me_slice (hK : X.K = G.K) (ha : PE X e (tE G W me)) (h1 : PO X lo (tO G W mo1)) (h2 : PO X hi (tO G W mo2)) : PE X (.Subscript e (.Slice lo hi none p2) pos) (tE G W (mSlice me mo1 mo2)) :=
  PE.imp (pe_slice sl_all ha h1 h2) fun σ H Q ⟨et, env, h, hE, hH, hP⟩ => by
    refine ⟨et, env, h, hE, hH, (Pst.of_bind hP).imp fun et1 H1 h1 x p e hr q v hv => ?_⟩
    have hE1 := hE.mono p e
    refine ⟨et1, env, h1, hE1, hr, (Pst.of_bind q).imp fun et2 H2 h2 l p2 e2 hr2 q2 => ?_⟩
    have hE2 := hE1.mono p2 e2
    refine ⟨et2, env, h2, hE2, hr2, (Pst.of_bind q2).imp fun et3 H3 h3 u p3 e3 hr3 q3 => ?_⟩
    rw [hK]
    exact slice_ok hr3 ((hv.mono p2 e2).mono p3 e3) q3
end

/-! ### built-ins by values -/
def CallS (G : Cf) (r : List V → Hp → VK → Prop) (f : List D → IH → R D) : Prop := ∀ (et : List Addr) (H : Hp) (h : IH) (xs : List D) (vs : List V) (W : Value → Option Addr → Hp → Prop) (Q : VK), DenL G et H xs vs → HRel G et h H →
  Pst G et H (f xs h) (fun et' H' _ d => ∀ v, Den G et' H' d v → Q v H') W → r vs H Q
def mB (f : List D → IH → R D) (t : MA) : ME := fun env h => (t env h).bind fun xs h1 => f xs h1
section
variable {X : Cx} {G : Cf} {W : WX} {e : Expr} {es : List Expr} {mt : MA} {pos p : Pos} {x : Str} {r : List V → Hp → VK → Prop} {f : List D → IH → R D}
theorem me_callB {id : String} (hc : CallR X (.builtin id) r) (hs : CallS G r f) (hm : X.mg x = none) (hv : bootBuiltins x = some (.builtin id)) (ha : PA X (e :: es) (tA G W mt)) (hg : Gl X x := by rfl) (hn : x ≠ "__name__" := by decide) (hdb : (x == ("__debug__" : Str)) = false := by decide)
    (he : starEach (e :: es) X.env = (false, eval e X.env) :: starEach es X.env := by rfl) (hpl : (backTo pos (starEach es X.env)).any (·.1) = false := by rfl) : PE X (.Call (.Name x p) (e :: es) [] pos) (tE G W (mB f mt)) :=
  PE.imp (pe_callB hc hg hm hv ha hn hdb he hpl) fun σ H Q ⟨et, env, h, hE, hH, hP⟩ => ⟨et, env, h, hE, hH, (Pst.of_bind hP).imp fun et1 H1 h1 xs p e hr q vs hv => hs et1 H1 h1 xs vs _ Q hv hr q⟩
theorem me_callT {T : String} (hc : CallR X (.type T) r) (hs : CallS G r f) (hm : X.mg x = none) (hv : bootBuiltins x = some (.type T)) (ha : PA X (e :: es) (tA G W mt)) (hg : Gl X x := by rfl) (hn : x ≠ "__name__" := by decide) (hdb : (x == ("__debug__" : Str)) = false := by decide)
    (he : starEach (e :: es) X.env = (false, eval e X.env) :: starEach es X.env := by rfl) (hpl : (backTo pos (starEach es X.env)).any (·.1) = false := by rfl) : PE X (.Call (.Name x p) (e :: es) [] pos) (tE G W (mB f mt)) :=
  PE.imp (pe_callTy hc hg hm hv ha hn hdb he hpl) fun σ H Q ⟨et, env, h, hE, hH, hP⟩ => ⟨et, env, h, hE, hH, (Pst.of_bind hP).imp fun et1 H1 h1 xs p e hr q vs hv => hs et1 H1 h1 xs vs _ Q hv hr q⟩
end

def bAbs : List D → IH → R D
  | [.int i], h => .ok (.int (if i < 0 then -i else i)) h
  | _, _ => .no
def bMax2 : List D → IH → R D
  | [.int i, .int j], h => .ok (.int (if j > i then j else i)) h
  | _, _ => .no
def bMin2 : List D → IH → R D
  | [.int i, .int j], h => .ok (.int (if j < i then j else i)) h
  | _, _ => .no
def bInt1 : List D → IH → R D
  | [.int i], h => .ok (.int i) h
  | [.bl b], h => .ok (.int (if b then 1 else 0)) h
  | _, _ => .no
def bLen : List D → IH → R D
  | [.str s], h => if s.length ≤ 10000000 then .ok (.int (s.length : Nat)) h else .no
  | [.tup l], h => .ok (.int (l.length : Nat)) h
  | [.fl l], h => .ok (.int (l.length : Nat)) h
  | [.ref n], h => match h[n]? with
    | some (.lst xs) => .ok (.int (xs.length : Nat)) h
    | some (.frz xs) => .ok (.int (xs.length : Nat)) h
    | some (.dk kvs) => .ok (.int (kvs.length : Nat)) h
    | _ => .no
  | _, _ => .no
def bList : List D → IH → R D
  | [x], h => match x with
    | .str _ => .no
    | x => match seqOf h x with
      | some xs => .ok (.ref h.length) (h ++ [.lst xs])
      | none => .no
  | _, _ => .no
def bTuple : List D → IH → R D
  | [x], h => match x with
    | .str _ => .no
    | .tup l => .ok (.tup l) h
    | x => match lstOf h x with
      | some xs => .ok (.tup xs) h
      | none => .no
  | _, _ => .no
def bSum : List D → IH → R D
  | [x], h => match (lstOf h x).bind (allM D.int?) with
    | some ns => .ok (.int ns.sum) h
    | none => .no
  | _, _ => .no
def bAny : List D → IH → R D
  | [x], h => match (lstOf h x).bind (allM D.bl?) with
    | some bs => .ok (.bl (bs.any id)) h
    | none => .no
  | _, _ => .no
def bAll : List D → IH → R D
  | [x], h => match (lstOf h x).bind (allM D.bl?) with
    | some bs => .ok (.bl (bs.all id)) h
    | none => .no
  | _, _ => .no
section
variable {X : Cx} {G : Cf}
theorem list1 {et : List Addr} {H : Hp} {x : D} {vs : List V} (r : DenL G et H [x] vs) : ∃ v, vs = [v] ∧ Den G et H x v := by
  obtain ⟨v, ws, rfl, h1, h2⟩ := denL_cons.mp r
  rw [denL_nil] at h2
  subst h2
  exact ⟨v, rfl, h1⟩
theorem list2 {et : List Addr} {H : Hp} {x y : D} {vs : List V} (r : DenL G et H [x, y] vs) : ∃ v w, vs = [v, w] ∧ Den G et H x v ∧ Den G et H y w := by
  obtain ⟨v, ws, rfl, h1, h2⟩ := denL_cons.mp r
  obtain ⟨w, rfl, h3⟩ := list1 h2
  exact ⟨v, w, rfl, h1, h3⟩
theorem bAbs_ok : CallS G (fun xs H Q => ∃ i, xs = [.int i] ∧ Q (.int (if i < 0 then -i else i)) H) bAbs := by
  intro et H h xs vs W Q rv R p
  unfold bAbs at p
  split at p
  · obtain ⟨v, rfl, h1⟩ := list1 rv
    exact ⟨_, by rw [den_int.mp h1], p.here R _ (by simp)⟩
  · exact p.elim
theorem bMax2_ok : CallS G (fun xs H Q => ∃ i j, xs = [.int i, .int j] ∧ Q (.int (if j > i then j else i)) H) bMax2 := by
  intro et H h xs vs W Q rv R p
  unfold bMax2 at p
  split at p
  · obtain ⟨v, w, rfl, h1, h2⟩ := list2 rv
    exact ⟨_, _, by rw [den_int.mp h1, den_int.mp h2], p.here R _ (by simp)⟩
  · exact p.elim
theorem bMin2_ok : CallS G (fun xs H Q => ∃ i j, xs = [.int i, .int j] ∧ Q (.int (if j < i then j else i)) H) bMin2 := by
  intro et H h xs vs W Q rv R p
  unfold bMin2 at p
  split at p
  · obtain ⟨v, w, rfl, h1, h2⟩ := list2 rv
    exact ⟨_, _, by rw [den_int.mp h1, den_int.mp h2], p.here R _ (by simp)⟩
  · exact p.elim
theorem bInt1_ok : CallS G (fun xs H Q => (∃ i, xs = [.int i] ∧ Q (.int i) H) ∨ ∃ k, xs = [.bl k] ∧ Q (.int (if k then 1 else 0)) H) bInt1 := by
  intro et H h xs vs W Q rv R p
  unfold bInt1 at p
  split at p
  · obtain ⟨v, rfl, h1⟩ := list1 rv
    exact .inl ⟨_, by rw [den_int.mp h1], p.here R _ (by simp)⟩
  · obtain ⟨v, rfl, h1⟩ := list1 rv
    exact .inr ⟨_, by rw [den_bl.mp h1], p.here R _ (by simp)⟩
  · exact p.elim
def rLenA (K : PySem.W.Frag) : List V → Hp → VK → Prop := fun xs H Q => (∃ x n, xs = [x] ∧ LenV K x H n ∧ Q (.int n) H) ∨ (∃ a kvs, xs = [V.ref a] ∧ H a = some (.dK kvs) ∧ Q (.int kvs.length) H)
theorem call_lenA : CallR X (.builtin "len") (rLenA X.K) := CallR.or call_len call_lenD
theorem bLen_ok : CallS G (rLenA G.K) bLen := by
  intro et H h xs vs W Q rv R p
  unfold bLen at p
  split at p
  · split at p
    · rename_i s c
      obtain ⟨v, rfl, h1⟩ := list1 rv
      refine .inl ⟨_, s.length, rfl, ?_, p.here R _ (by simp)⟩
      rw [den_str.mp h1]
      exact ⟨by rw [strV_length]; exact sz c, by rw [strV_length]⟩
    · exact p.elim
  · rename_i l
    obtain ⟨v, rfl, h1⟩ := list1 rv
    obtain ⟨a, vs, rfl, h2, h3⟩ := den_tup.mp h1
    exact .inl ⟨_, l.length, rfl, .inr ⟨vs, h2, h3.len.symm⟩, p.here R _ (by simp)⟩
  · rename_i l
    obtain ⟨v, rfl, h1⟩ := list1 rv
    obtain ⟨a, vs, rfl, h2, h3⟩ := den_fl.mp h1
    exact .inl ⟨_, l.length, rfl, .inl ⟨vs, h2.sq, h3.len.symm⟩, p.here R _ (by simp)⟩
  · obtain ⟨v, rfl, h1⟩ := list1 rv
    obtain ⟨a, h2, rfl⟩ := den_ref.mp h1
    split at p
    · rename_i xs hx
      obtain ⟨vs, h3, h4⟩ := R.cell _ _ a hx h2
      exact .inl ⟨_, xs.length, rfl, .inl ⟨vs, SqL.of h3, h4.len.symm⟩, p.here R _ (by simp)⟩
    · rename_i xs hx
      obtain ⟨vs, h3, h4⟩ := R.cell _ _ a hx h2
      exact .inl ⟨_, xs.length, rfl, .inl ⟨vs, h3.sq, h4.len.symm⟩, p.here R _ (by simp)⟩
    · rename_i kvs hx
      obtain ⟨ws, h3, h4, h5⟩ := R.cell _ _ a hx h2
      have hl := congrArg List.length h4
      simp at hl
      exact .inr ⟨a, ws, rfl, h3, p.here R _ (by simp [hl])⟩
    · exact p.elim
  · exact p.elim
theorem bSum_ok : CallS G (rSum G.K) bSum := by
  intro et H h xs vs W Q rv R p
  unfold bSum at p
  split at p
  · split at p
    · rename_i ns e
      simp only [Option.bind_eq_some_iff] at e
      obtain ⟨ds, e1, e2⟩ := e
      obtain ⟨v, rfl, h1⟩ := list1 rv
      obtain ⟨a, vs, rfl, h2, h3⟩ := lst_ok R e1 h1
      rw [allM_ints e2] at h3
      rw [h3.ints] at h2
      exact ⟨a, ns, rfl, h2, p.here R _ (by simp)⟩
    · exact p.elim
  · exact p.elim
theorem bAny_ok : CallS G (rAny G.K) bAny := by
  intro et H h xs vs W Q rv R p
  unfold bAny at p
  split at p
  · split at p
    · rename_i ns e
      simp only [Option.bind_eq_some_iff] at e
      obtain ⟨ds, e1, e2⟩ := e
      obtain ⟨v, rfl, h1⟩ := list1 rv
      obtain ⟨a, vs, rfl, h2, h3⟩ := lst_ok R e1 h1
      rw [allM_bls e2] at h3
      rw [h3.bls] at h2
      exact ⟨a, ns, rfl, h2, p.here R _ (by simp)⟩
    · exact p.elim
  · exact p.elim
theorem bAll_ok : CallS G (rAll G.K) bAll := by
  intro et H h xs vs W Q rv R p
  unfold bAll at p
  split at p
  · split at p
    · rename_i ns e
      simp only [Option.bind_eq_some_iff] at e
      obtain ⟨ds, e1, e2⟩ := e
      obtain ⟨v, rfl, h1⟩ := list1 rv
      obtain ⟨a, vs, rfl, h2, h3⟩ := lst_ok R e1 h1
      rw [allM_bls e2] at h3
      rw [h3.bls] at h2
      exact ⟨a, ns, rfl, h2, p.here R _ (by simp)⟩
    · exact p.elim
  · exact p.elim
end
end NR

set_option Elab.async false
set_option linter.all false
set_option maxRecDepth 100000
/-! Methods, loops, comprehensions. -/
namespace NR
open PySem PySem.Spec PyProof.Rows L2

/-! ### methods of built-in types -/
def tyD (T : String) (h : IH) : D → Bool
  | .str _ => T == "str"
  | .int _ => T == "int"
  | .fl _ => T == "list"
  | .ref n => match h[n]? with
    | some (.lst _) => T == "list"
    | some (.frz _) => T == "list"
    | some (.dk _) => T == "dict"
    | _ => false
  | _ => false
def mMeth (T : String) (f : D → List D → IH → R D) (mo : ME) (mt : MA) : ME := fun env h => (mo env h).bind fun x h1 => if tyD T h1 x = true then (mt env h1).bind fun xs h2 => f x xs h2 else .no
def MethS (G : Cf) (r : V → List V → Hp → VK → Prop) (f : D → List D → IH → R D) : Prop := ∀ (et : List Addr) (H : Hp) (h : IH) (x : D) (v : V) (xs : List D) (vs : List V) (W : Value → Option Addr → Hp → Prop) (Q : VK), Den G et H x v → DenL G et H xs vs → HRel G et h H →
  Pst G et H (f x xs h) (fun et' H' _ d => ∀ v, Den G et' H' d v → Q v H') W → r v vs H Q
section
variable {X : Cx} {G : Cf} {W : WX} {o e : Expr} {es : List Expr} {mo : ME} {mt : MA} {name : Str} {apos cpos : Pos} {T id : String} {r : V → List V → Hp → VK → Prop} {f : D → List D → IH → R D}
theorem tyD_ok {et : List Addr} {H : Hp} {h : IH} (R : HRel G et h H) {x : D} {v : V} (e : tyD T h x = true) (r : Den G et H x v) : tyV G.K T v H := by
  cases x with
  | str s => rw [den_str.mp r]; exact (show T = "str" by simpa [tyD] using e)
  | int s => rw [den_int.mp r]; exact (show T = "int" by simpa [tyD] using e)
  | fl l =>
    obtain ⟨a, vs, rfl, h2, h3⟩ := den_fl.mp r
    exact .inl ⟨by simpa [tyD] using e, vs, h2.sq⟩
  | ref n =>
    obtain ⟨a, h1, rfl⟩ := den_ref.mp r
    simp only [tyD] at e
    split at e
    · rename_i xs hx
      obtain ⟨vs, h2, h3⟩ := R.cell n _ a hx h1
      exact .inl ⟨by simpa using e, vs, SqL.of h2⟩
    · rename_i xs hx
      obtain ⟨vs, h2, h3⟩ := R.cell n _ a hx h1
      exact .inl ⟨by simpa using e, vs, h2.sq⟩
    · rename_i xs hx
      obtain ⟨vs, h2, h3⟩ := R.cell n _ a hx h1
      exact .inr (.inr (.inl ⟨by simpa using e, .inl ⟨vs, h2⟩⟩))
    · cases e
  | _ => simp [tyD] at e
theorem me_meth (hK : X.K = G.K) (pa : PlainAttrs T) (slot : Slot T name id) (hty : typeOf (.builtin id) = pure (.type "method_descriptor")) (hm : MtR X id r) (hs : MethS G r f) (ho : PE X o (tE G W mo)) (ha : PA X (e :: es) (tA G W mt))
    (hbase : attributeBase o name X.env (eval o X.env) = eval o X.env := by rfl) (hall : ((backTo cpos (starEach (e :: es) X.env)).all (!·.1) && (backToKw cpos (keywordEach [] X.env)).all (·.1.isSome) && decide ((e :: es).length + ([] : List Keyword).length + (if ([] : List Keyword).isEmpty = true then 0 else 1) < 30)) = true := by rfl)
    (hline : (apos.endLine == cpos.line) = true := by rfl) (he : starEach (e :: es) X.env = (false, eval e X.env) :: starEach es X.env := by rfl) (hpl : (backTo cpos (starEach es X.env)).any (·.1) = false := by rfl) :
    PE X (.Call (.Attribute o name apos) (e :: es) [] cpos) (tE G W (mMeth T f mo mt)) := PE.imp (pe_bm pa slot hty hm ho ha hbase hall hline he hpl) fun σ H Q ⟨et, env, h, hE, hH, hP⟩ => by
  refine ⟨et, env, h, hE, hH, (Pst.of_bind hP).imp fun et1 H1 h1 x p e hr q v hv => ?_⟩
  split at q
  · rename_i ht
    rw [hK]
    exact ⟨tyD_ok hr ht hv, et1, env, h1, hE.mono p e, hr, (Pst.of_bind q).imp fun et2 H2 h2 xs p2 e2 hr2 q2 vs hvs => hs et2 H2 h2 x v xs vs _ Q (hv.mono p2 e2) hvs hr2 q2⟩
  · exact q.elim
end
def fAppend : D → List D → IH → R D
  | .ref n, [y], h => match h[n]? with
    | some (.lst xs) => if xs.length < 10000000 then .ok .non (h.set n (.lst (xs ++ [y]))) else .no
    | _ => .no
  | _, _, _ => .no
def rExtendR : V → List V → Hp → VK → Prop := fun x vs H Q => ∃ l b xs zs, x = .ref l ∧ vs = [.ref b] ∧ H l = some (.lst xs) ∧ Rd H b (.lst zs) ∧ xs.length + zs.length ≤ sizeLine ∧ Q .non (upd H l (.lst (xs ++ zs)))
theorem mt_extendR {X : Cx} : MtM X "list.extend" rExtendR := by
  intro pins s σ H x vs v us Q I rx rv h
  obtain ⟨l, b, xs, zs, rfl, rfl, hH, hB, hz, q⟩ := h
  cases rx
  obtain ⟨u, rfl, ru⟩ := rv.one
  cases ru
  obtain ⟨z, its, n, r, hl, e⟩ := I.lstM hH
  obtain ⟨z2, its2, n2, r2, e2⟩ := Inv.lstR I hB
  have hl2 := r2.length
  have hsz : its.toArray.size + its2.toArray.size ≤ sizeLine := by rw [List.size_toArray, List.size_toArray]; omega
  have hlong : ¬ (!its.toArray.isEmpty && Builtin.List.listTooLong (its.toArray.size + its2.toArray.size)) = true := by
    rw [notLongL hsz, Bool.and_false]
    exact Bool.false_ne_true
  refine call_meets F.slot_list_extend ⟨_, e, rfl⟩ F.entry_list_extend (F.args_list_extend_2 _ _)
    (AutoSeq1.list_extend_list_list_0 l its.toArray n b its2.toArray n2 hlong (by rw [List.size_toArray]; omega) (by omega)) ⟨e, e2, ?_⟩
  refine ⟨.non, _, I.lset (its' := its ++ its2) hH e (by simp) (r.append r2) ?_, rfl, q⟩
  rw [List.length_append]
  omega
def fExtend : D → List D → IH → R D
  | .ref n, [y], h => match h[n]?, lsOf h y with
    | some (.lst xs), some ys => if xs.length + ys.length ≤ 10000000 then .ok .non (h.set n (.lst (xs ++ ys))) else .no
    | _, _ => .no
  | _, _, _ => .no
def joinN (a : List Nat) : List (List Nat) → List Nat
  | [] => []
  | [x] => x
  | x :: y :: r => x ++ a ++ joinN a (y :: r)
def fJoin : D → List D → IH → R D
  | .str a, [y], h => match (seqOf h y).bind (allM D.str?) with
    | some ys => if (ys.map List.length).sum + ys.length * a.length ≤ 10000000 then .ok (.str (joinN a ys)) h else .no
    | none => .no
  | _, _, _ => .no
theorem glue_fold (a : List Nat) : ∀ (ys : List (List Nat)) (x : List Nat), (ys.map strV).foldl (fun acc p => acc ++ (strV a).cps ++ p.cps) (strV x).cps = (strV (joinN a (x :: ys))).cps
  | [], x => rfl
  | y :: ys, x => by
    have ih := glue_fold a ys (x ++ a ++ y)
    rw [List.map_cons, List.foldl_cons]
    have e1 : (strV x).cps ++ (strV a).cps ++ (strV y).cps = (strV (x ++ a ++ y)).cps := by simp [strV]
    rw [e1, ih]
    congr 2
    cases ys with
    | nil => simp [joinN]
    | cons z zs => simp [joinN]
theorem join_ok (a : List Nat) (ys : List (List Nat)) : Txt.join (strV a) (ys.map strV) = strV (joinN a ys) := by
  show Builtin.Str.glued _ _ = _
  unfold Builtin.Str.glued
  cases ys with
  | nil => rfl
  | cons y ys =>
    simp only [List.map_cons, List.drop_succ_cons, List.drop_zero, List.headD_cons]
    rw [glue_fold]
section
variable {X : Cx} {G : Cf}
theorem fAppend_ok : MethS G rAppend fAppend := by
  intro et H h x v xs vs W Q rx rv R p
  unfold fAppend at p
  split at p
  · split at p
    · split at p
      · rename_i n y ys hx c
        obtain ⟨w, rfl, h1⟩ := list1 rv
        obtain ⟨a, us, h2, rfl, h3, h4⟩ := den_list R hx rx
        refine ⟨a, us, w, rfl, rfl, h3, ?_, ?_⟩
        · rw [h4.len, sizeLine_eq]; omega
        · have ex : Ext H (upd H a (.lst (us ++ [w]))) := Ext.mut h3 True.intro
          exact p et _ List.prefix_rfl ex (R.set hx h2 rfl h3 True.intro ⟨_, upd_same, (h4.app (denL_cons.mpr ⟨w, [], rfl, h1, by simp⟩)).mono List.prefix_rfl ex⟩) _ (by simp)
      · exact p.elim
    · exact p.elim
  · exact p.elim
theorem fExtend_ok : MethS G rExtendR fExtend := by
  intro et H h x v xs vs W Q rx rv R p
  unfold fExtend at p
  split at p
  · split at p
    · split at p
      · rename_i n y _ _ xs' ys hx hy c
        obtain ⟨w, rfl, h1⟩ := list1 rv
        obtain ⟨a, us, h2, rfl, h3, h4⟩ := den_list R hx rx
        obtain ⟨b, ws, rfl, k3, k4⟩ := ls_ok R hy h1
        refine ⟨a, b, us, ws, rfl, rfl, h3, k3, sz (by rw [h4.len, k4.len]; exact c), ?_⟩
        have ex : Ext H (upd H a (.lst (us ++ ws))) := Ext.mut h3 True.intro
        exact p et _ List.prefix_rfl ex (R.set hx h2 rfl h3 True.intro ⟨_, upd_same, (h4.app k4).mono List.prefix_rfl ex⟩) _ (by simp)
      · exact p.elim
    · exact p.elim
  · exact p.elim
theorem sum_len (ys : List (List Nat)) : ((ys.map strV).map (·.length)).sum = (ys.map List.length).sum := by
  rw [List.map_map]
  congr 1
theorem fJoin_ok : MethS G (fun x xs H Q => ∃ a p, ∃ ys : List Str, x = .str a ∧ xs = [.ref p] ∧ (SqL G.K H p (ys.map V.str) ∨ SqT G.K H p (ys.map V.str)) ∧ (ys.map (·.length)).sum + ys.length * a.length ≤ 16777216 ∧ Q (.str (Txt.join a ys)) H) fJoin := by
  intro et H h x v xs vs W Q rx rv R p
  unfold fJoin at p
  split at p
  · rename_i a y
    split at p
    · rename_i ys e
      split at p
      · rename_i c
        obtain ⟨w, rfl, h1⟩ := list1 rv
        simp only [Option.bind_eq_some_iff] at e
        obtain ⟨ds, e1, e2⟩ := e
        obtain ⟨q, us, rfl, h2, h3⟩ := seq_ok R e1 h1
        rw [allM_strs e2] at h3
        rw [h3.strs] at h2
        refine ⟨strV a, q, ys.map strV, den_str.mp rx, rfl, h2, ?_, ?_⟩
        · rw [sum_len, strV_length, List.length_map]; omega
        · exact p.here R _ (by simp [join_ok])
      · exact p.elim
    · exact p.elim
  · exact p.elim
end

/-! ### what a loop walks -/
inductive Src where
  | st (ds : List D)
  | ls (n : Nat)
  /-- what is read of the heap each time -/
  | dy (f : IH → Option (List D))
def Src.get : Src → IH → Nat → Option D
  | .st ds, _, i => ds[i]?
  | .ls n, h, i => (lstOf h (.ref n)).bind fun xs => xs[i]?
  | .dy f, h, i => (f h).bind fun xs => xs[i]?
def Src.ok : Src → IH → Bool
  | .st _, _ => true
  | .ls n, h => (lstOf h (.ref n)).isSome
  | .dy f, h => (f h).isSome
def Src.many : Src → IH → Nat
  | .st ds, _ => ds.length
  | .ls n, h => ((lstOf h (.ref n)).getD []).length
  | .dy f, h => ((f h).getD []).length
/-- the iterator J yields what the source tells -/
def JRel (G : Cf) (et0 : List Addr) (H0 : Hp) (src : Src) (J : It) : Prop := ∀ (et : List Addr) (H : Hp) (h : IH), et0 <+: et → Ext H0 H → HRel G et h H → src.ok h = true → ∀ i : Nat,
  match src.get h i with
  | some d => J.go i H ∧ ∀ x H', J.yld i H x H' → Ext H H' ∧ HRel G et h H' ∧ Den G et H' d x
  | none => J.stop i H
abbrev MI := EV → IH → R Src
def tI (G : Cf) (W : WX) (m : MI) : TI := fun σ H R => ∃ et env h, EnvR G et H env σ ∧ HRel G et h H ∧
  Pst G et H (m env h) (fun et' H' _ src => ∀ J, JRel G et' H' src J → R J H') (fun c d H' => W c d σ H')
theorem PI.imp {X : Cx} {tg iter : Expr} {w w' : TI} (h : PI X tg iter w) (k : ∀ σ H R, w' σ H R → w σ H R) : PI X tg iter w' := ⟨fun pins s σ H R I x => h.run pins s σ H R I (k σ H R x)⟩
abbrev MG := D → EV → Option EV
/-- the target's slots ws get what they get, no other slot changes -/
def OnlyS (ws : List Nat) (σ σ' : L2.St) : Prop := σ'.length = σ.length ∧ ∀ j, j ∉ ws → σ'[j]? = σ[j]?
def tG (G : Cf) (ws : List Nat) (g : MG) : TG := fun v σ H Q => ∃ et env h d, EnvR G et H env σ ∧ HRel G et h H ∧ Den G et H d v ∧ match g d env with
  | some env' => ∀ σ', OnlyS ws σ σ' → EnvR G et H env' σ' → Q σ' H
  | none => False
theorem PG.imp {X : Cx} {e : Expr} {w w' : TG} (h : PG X e w) (k : ∀ v σ H R, w' v σ H R → w v σ H R) : PG X e w' := ⟨fun pins s σ H v u R I r x => h.run pins s σ H v u R I r (k v σ H R x)⟩
def gSet (i : Nat) : MG := fun d env => some (env.set i (some d))
def gSets (is : List Nat) : MG := fun d env => match d with
  | .tup ds => if ds.length = is.length then some ((is.zip ds).foldl (fun e p => e.set p.1 (some p.2)) env) else none
  | .fl ds => if ds.length = is.length then some ((is.zip ds).foldl (fun e p => e.set p.1 (some p.2)) env) else none
  | _ => none
theorem PG.or {X : Cx} {e : Expr} {w w' : TG} (h : PG X e w) (h' : PG X e w') : PG X e (fun v σ H Q => w v σ H Q ∨ w' v σ H Q) := ⟨fun pins s σ H v u Q I r x => by
  rcases x with x | x
  · exact h.run pins s σ H v u Q I r x
  · exact h'.run pins s σ H v u Q I r x⟩
theorem OnlyS.refl (ws : List Nat) (σ : L2.St) : OnlyS ws σ σ := ⟨rfl, fun _ _ => rfl⟩
theorem OnlyS.set {ws : List Nat} {σ σ' : L2.St} (x : OnlyS ws σ σ') {i : Nat} (hi : i ∈ ws) (v : Option V) : OnlyS ws σ (σ'.set i v) :=
  ⟨by rw [List.length_set, x.1], fun j hj => by
    have hne : i ≠ j := fun z => hj (by rw [← z]; exact hi)
    rw [List.getElem?_set_ne hne]; exact x.2 j hj⟩
section
variable {X : Cx} {G : Cf} {W : WX} {e : Expr} {es : List Expr} {pos : Pos}
theorem mg_name (i : Nat) {x : Str} (hN : X.N.Nodup) (hi : X.N[i]? = some x := by rfl) (hx : Loc X.env.scope x := by first | exact Or.inl rfl | exact Or.inr rfl) (hf : X.fn x = true ∨ X.env.scope.names.lookup x = some .local := by first | exact .inl rfl | exact .inr rfl) :
    PG X (.Name x pos) (tG G [i] (gSet i)) := PG.imp (pg_name hN hi hx hf) fun v σ H Q ⟨et, env, h, d, hE, hH, hD, hP⟩ => by
  exact hP _ ((OnlyS.refl _ _).set (by simp) _) (hE.set i hD)
/-- several names -/
inductive PGN (X : Cx) (G : Cf) : List Nat → List Expr → TGs → Prop
  | nil : PGN X G [] [] gNil
  | cons {i : Nat} {is : List Nat} {e : Expr} {es : List Expr} {t : TGs} : PG X e (gName i) → PGN X G is es t → (assignEach (e :: es) X.env).map (·.2) = assign e X.env :: (assignEach es X.env).map (·.2) → PGN X G (i :: is) (e :: es) (gCons (gName i) t)
theorem PGN.pgs {is : List Nat} {es : List Expr} {t : TGs} (h : PGN X G is es t) : PGs X es t := by
  induction h with
  | nil => exact pgs_nil
  | cons h1 h2 h3 ih => exact pgs_cons h1 ih h3
theorem PGN.run {is : List Nat} {es : List Expr} {t : TGs} (h : PGN X G is es t) {et : List Addr} {H : Hp} {env : EV} {σ σ0 : L2.St} {ds : List D} {vs : List V} {ws : List Nat} {Q : L2.St → Hp → Prop} (hE : EnvR G et H env σ) (hD : DenL G et H ds vs) (hl : ds.length = is.length) (hw : ∀ i ∈ is, i ∈ ws)
    (ho : OnlyS ws σ0 σ) (q : ∀ σ', OnlyS ws σ0 σ' → EnvR G et H ((is.zip ds).foldl (fun e p => e.set p.1 (some p.2)) env) σ' → Q σ' H) : t vs σ H Q := by
  induction h generalizing env σ ds vs with
  | nil =>
    cases ds with
    | nil => rw [denL_nil] at hD; exact ⟨hD, q σ ho hE⟩
    | cons _ _ => simp at hl
  | cons h1 h2 h3 ih =>
    rename_i i is' e' es' t'
    cases ds with
    | nil => simp at hl
    | cons d ds =>
      obtain ⟨v, ws', rfl, r1, r2⟩ := denL_cons.mp hD
      refine ⟨v, ws', rfl, ?_⟩
      exact ih (hE.set i r1) r2 (by simpa using hl) (fun j hj => hw j (List.mem_cons_of_mem _ hj)) (ho.set (hw i List.mem_cons_self) _) q
theorem mg_tup {is : List Nat} {t : TGs} {k n : Nat} (hK : X.K = G.K) (hc : X.calm = true) (h : PGN X G is es t) (hln : is.length = n := by rfl) (hn : (assignEach es X.env).length = n := by rfl) (hst : (assignEach es X.env).findIdx? (·.1) = none := by rfl) :
    PG X (.Tuple es k pos) (tG G is (gSets is)) := PG.imp (PG.or (pg_tup hc h.pgs hn hst) (pg_unl hc h.pgs hn hst)) fun v σ H Q ⟨et, env, h0, d, hE, hH, hD, hP⟩ => by
  unfold gSets at hP
  cases d with
  | tup ds =>
    simp only at hP
    split at hP
    · rename_i hl
      split at hl
      · rename_i l
        obtain ⟨a, vs, rfl, r1, r2⟩ := den_tup.mp hD
        cases hl
        rw [hK]
        exact .inl ⟨a, vs, rfl, r1, by rw [r2.len, l, hln], h.run hE r2 l (fun i hi => hi) (OnlyS.refl _ _) fun σ' o hE' => hP σ' o hE'⟩
      · cases hl
    · exact hP.elim
  | fl ds =>
    simp only at hP
    split at hP
    · rename_i hl
      split at hl
      · rename_i l
        obtain ⟨a, vs, rfl, r1, r2⟩ := den_fl.mp hD
        cases hl
        rw [hK]
        exact .inr ⟨a, vs, rfl, r1.sq, by rw [r2.len, l, hln], h.run hE r2 l (fun i hi => hi) (OnlyS.refl _ _) fun σ' o hE' => hP σ' o hE'⟩
      · cases hl
    · exact hP.elim
  | _ => exact hP.elim
end
end NR

set_option Elab.async false
set_option linter.all false
set_option maxRecDepth 100000
/-! Loops, comprehensions. -/
namespace NR
open PySem PySem.Spec PyProof.Rows L2

/-! ### sources -/
/-- a list or a tuple or a text, as it comes -/
def iSeq (m : ME) : MI := fun env h => (m env h).bind fun x h1 => match x with
  | .ref n => if (lstOf h1 (.ref n)).isSome then .ok (.ls n) h1 else .no
  | .tup l => .ok (.st l) h1
  | .fl l => .ok (.st l) h1
  | .str s => if s.length ≤ 10000000 then .ok (.st (s.map fun c => .str [c])) h1 else .no
  | _ => .no
def intsFrom (lo : Int) (n : Nat) : List D := (List.range n).map fun i => .int (lo + (i : Nat))
def iRange1 (m : MA) : MI := fun env h => (m env h).bind fun xs h1 => match xs with
  | [.int j] => if -10000000 ≤ j ∧ j ≤ 10000000 then .ok (.st (intsFrom 0 j.toNat)) h1 else .no
  | _ => .no
def iRange2 (m : MA) : MI := fun env h => (m env h).bind fun xs h1 => match xs with
  | [.int i, .int j] => if -10000000 ≤ i ∧ i ≤ 10000000 ∧ -10000000 ≤ j ∧ j ≤ 10000000 then .ok (.st (intsFrom i (j - i).toNat)) h1 else .no
  | _ => .no
section
variable {X : Cx} {G : Cf} {W : WX} {e tg : Expr} {es : List Expr} {me : ME} {mt : MA} {pos p : Pos}
/-- a walk of what e holds: a list, a tuple, a text (the reading takes any of the three) -/
theorem pi_any {te : TE} (he : PE X e te) : PI X tg e (fun σ H R => iList X.K te σ H R ∨ iTup X.K te σ H R ∨ iStr te σ H R) :=
  ⟨fun pins s σ H R I x => by
    rcases x with x | x | x
    · exact (pi_list he).run pins s σ H R I x
    · exact (pi_tup he).run pins s σ H R I x
    · exact (pi_str he).run pins s σ H R I x⟩
theorem jrel_list {et : List Addr} {H : Hp} {n : Nat} {a : Addr} (e : et[n]? = some a) : JRel G et H (.ls n) (Itl G.K a) := by
  intro et1 H1 h1 p ex R ok i
  have e1 : et1[n]? = some a := by
    obtain ⟨t, rfl⟩ := p
    rw [List.getElem?_append_left (List.getElem?_eq_some_iff.mp e).1]
    exact e
  have ok' : (lstOf h1 (.ref n)).isSome = true := ok
  obtain ⟨xs, hx⟩ := Option.isSome_iff_exists.mp ok'
  obtain ⟨b, vs, hb, h2, h3⟩ := lst_ok R hx (den_ref.mpr ⟨a, e1, rfl⟩)
  cases hb
  show match (lstOf h1 (.ref n)).bind fun xs => xs[i]? with
    | some d => _
    | none => _
  rw [hx]
  show match xs[i]? with
    | some d => _
    | none => _
  cases hd : xs[i]? with
  | some d =>
    obtain ⟨v, hv, r⟩ := h3.get hd
    refine ⟨⟨vs, v, h2, hv⟩, fun x H' ⟨hH, hy⟩ => ?_⟩
    rw [hH]
    have := hy vs h2
    rw [hv] at this
    cases this
    exact ⟨Ext.refl _, R, r⟩
  | none =>
    refine ⟨vs, h2, ?_⟩
    rw [h3.len]
    exact List.getElem?_eq_none_iff.mp hd
theorem jrel_st {et : List Addr} {H : Hp} {l : List D} {J : It} (k : ∀ (et1 : List Addr) (H1 : Hp) (h1 : IH), et <+: et1 → Ext H H1 → HRel G et1 h1 H1 → ∀ i : Nat, match l[i]? with
    | some d => J.go i H1 ∧ ∀ x H', J.yld i H1 x H' → Ext H1 H' ∧ HRel G et1 h1 H' ∧ Den G et1 H' d x
    | none => J.stop i H1) : JRel G et H (.st l) J := fun et1 H1 h1 p ex R _ i => k et1 H1 h1 p ex R i
theorem mi_seq (hK : X.K = G.K) (he : PE X e (tE G W me)) : PI X tg e (tI G W (iSeq me)) := PI.imp (pi_any he) fun σ H R ⟨et, env, h, hE, hH, hP⟩ => by
  unfold iSeq at hP
  rw [hK]
  cases hr : me env h with
  | no => rw [hr] at hP; exact hP.elim
  | ex c d h1 =>
    rw [hr] at hP
    exact .inl ⟨et, env, h, hE, hH, by rw [hr]; exact hP⟩
  | ok x h1 =>
    rw [hr] at hP
    cases x with
    | ref n =>
      refine .inl ⟨et, env, h, hE, hH, ?_⟩
      rw [hr]
      refine fun et1 H1 p e R1 v hv => ?_
      obtain ⟨a, ha, rfl⟩ := den_ref.mp hv
      have q : Pst G et H (if (lstOf h1 (.ref n)).isSome then NR.R.ok (Src.ls n) h1 else .no) (fun et' H' _ src => ∀ J, JRel G et' H' src J → R J H') (fun c d H' => W c d σ H') := hP
      split at q
      · rename_i ok
        obtain ⟨xs, hx⟩ := Option.isSome_iff_exists.mp ok
        obtain ⟨b, vs, hb, h2, h3⟩ := lst_ok R1 hx hv
        cases hb
        exact ⟨a, rfl, ⟨vs, h2⟩, q et1 H1 p e R1 _ (jrel_list ha)⟩
      · exact q.elim
    | tup l =>
      refine .inr (.inl ⟨et, env, h, hE, hH, ?_⟩)
      rw [hr]
      refine fun et1 H1 p e R1 v hv => ?_
      obtain ⟨a, vs, rfl, h2, h3⟩ := den_tup.mp hv
      refine ⟨a, rfl, ⟨vs, h2⟩, hP et1 H1 p e R1 _ (jrel_st fun et2 H2 h2' p2 e2 R2 i => ?_)⟩
      cases hd : l[i]? with
      | none =>
        refine ⟨vs, e2.sqT h2, ?_⟩
        rw [h3.len]
        exact List.getElem?_eq_none_iff.mp hd
      | some d =>
        obtain ⟨v, hv, r⟩ := h3.get hd
        refine ⟨⟨vs, v, e2.sqT h2, hv⟩, fun x H' ⟨hH, hy⟩ => ?_⟩
        rw [hH]
        have := hy vs (e2.sqT h2)
        rw [hv] at this
        cases this
        exact ⟨Ext.refl _, R2, r.mono p2 e2⟩
    | fl l =>
      refine .inl ⟨et, env, h, hE, hH, ?_⟩
      rw [hr]
      refine fun et1 H1 p e R1 v hv => ?_
      obtain ⟨a, vs, rfl, h2, h3⟩ := den_fl.mp hv
      refine ⟨a, rfl, ⟨vs, h2.sq⟩, hP et1 H1 p e R1 _ (jrel_st fun et2 H2 h2' p2 e2 R2 i => ?_)⟩
      cases hd : l[i]? with
      | none =>
        refine ⟨vs, (h2.ext e2).sq, ?_⟩
        rw [h3.len]
        exact List.getElem?_eq_none_iff.mp hd
      | some d =>
        obtain ⟨v, hv, r⟩ := h3.get hd
        refine ⟨⟨vs, v, (h2.ext e2).sq, hv⟩, fun x H' ⟨hH, hy⟩ => ?_⟩
        rw [hH]
        have := hy vs (h2.ext e2).sq
        rw [hv] at this
        cases this
        exact ⟨Ext.refl _, R2, r.mono p2 e2⟩
    | str s =>
      refine .inr (.inr ⟨et, env, h, hE, hH, ?_⟩)
      rw [hr]
      refine fun et1 H1 p e R1 v hv => ?_
      have q : Pst G et H (if s.length ≤ 10000000 then NR.R.ok (Src.st (s.map fun c => .str [c])) h1 else .no) (fun et' H' _ src => ∀ J, JRel G et' H' src J → R J H') (fun c d H' => W c d σ H') := hP
      split at q
      · refine ⟨strV s, den_str.mp hv, q et1 H1 p e R1 _ (jrel_st fun et2 H2 h2' p2 e2 R2 i => ?_)⟩
        rw [List.getElem?_map]
        cases hs : s[i]? with
        | none =>
          show (strV s).cps.size ≤ i
          simp [strV]
          exact List.getElem?_eq_none_iff.mp hs
        | some c =>
          refine ⟨?_, fun x H' ⟨hH, c', hc, hx⟩ => ?_⟩
          · show i < (strV s).cps.size
            simp [strV]
            exact (List.getElem?_eq_some_iff.mp hs).1
          · subst hx
            rw [hH]
            have : c' = c := by
              have h5 : s[i]? = some c' := by simpa [strV] using hc
              rw [hs] at h5
              exact (Option.some.inj h5).symm
            subst this
            exact ⟨Ext.refl _, R2, by simp [strV]⟩
      · exact q.elim
    | _ => exact hP.elim
theorem ints_get (lo : Int) (n i : Nat) : (intsFrom lo n)[i]? = if i < n then some (.int (lo + (i : Nat))) else none := by
  unfold intsFrom
  rw [List.getElem?_map]
  by_cases h : i < n
  · rw [if_pos h, List.getElem?_range h]
    rfl
  · rw [if_neg h, List.getElem?_eq_none (by simpa using h)]
    rfl
theorem jrel_ints {et : List Addr} {H : Hp} {lo : Int} {n : Nat} : JRel G et H (.st (intsFrom lo n)) (Itr lo n) := jrel_st fun et1 H1 h1 p ex R i => by
  rw [ints_get]
  by_cases h : i < n
  · rw [if_pos h]
    refine ⟨h, fun x H' ⟨hH, hx⟩ => ?_⟩
    rw [hH, hx]
    exact ⟨Ext.refl _, R, by simp⟩
  · rw [if_neg h]
    show n ≤ i
    omega
theorem mi_range1 {a : Expr} (ha : PA X [a] (tA G W mt)) (hm : X.mg "range" = none) (hg : Gl X "range" := by rfl) (hs : starEach [a] X.env = [(false, eval a X.env)] := by rfl) : PI X tg (.Call (.Name "range" p) [a] [] pos) (tI G W (iRange1 mt)) :=
  PI.imp (pi_range1 hg hm ha hs) fun σ H R ⟨et, env, h, hE, hH, hP⟩ => by
    refine ⟨et, env, h, hE, hH, (Pst.of_bind hP).imp fun et1 H1 h1 xs p e hr q vs hv => ?_⟩
    split at q
    · split at q
      · rename_i j c
        obtain ⟨v, rfl, r⟩ := list1 hv
        exact ⟨j, by rw [den_int.mp r], by omega, by omega, q.here hr _ jrel_ints⟩
      · exact q.elim
    · exact q.elim
theorem mi_range2 {a b : Expr} (ha : PA X [a, b] (tA G W mt)) (hm : X.mg "range" = none) (hg : Gl X "range" := by rfl) (hs : starEach [a, b] X.env = [(false, eval a X.env), (false, eval b X.env)] := by rfl) (hs2 : starEach [b] X.env = [(false, eval b X.env)] := by rfl) : PI X tg (.Call (.Name "range" p) [a, b] [] pos) (tI G W (iRange2 mt)) :=
  PI.imp (pi_range2 hg hm ha hs hs2) fun σ H R ⟨et, env, h, hE, hH, hP⟩ => by
    refine ⟨et, env, h, hE, hH, (Pst.of_bind hP).imp fun et1 H1 h1 xs p e hr q vs hv => ?_⟩
    split at q
    · split at q
      · rename_i i j c
        obtain ⟨v, w, rfl, r1, r2⟩ := list2 hv
        exact ⟨i, j, by rw [den_int.mp r1, den_int.mp r2], by omega, q.here hr _ jrel_ints⟩
      · exact q.elim
    · exact q.elim
end

/-! ### for -/
def forM (src : Src) (g : MG) (b : MS) : Nat → Nat → EV → IH → RS
  | 0, _, _, _ => .no
  | m + 1, i, env, h => if src.ok h = true then (match src.get h i with
    | none => .nx env h
    | some d => match g d env with
      | none => .no
      | some e1 => match b e1 h with
        | .nx e2 h2 => forM src g b m (i + 1) e2 h2
        | .ct e2 h2 => forM src g b m (i + 1) e2 h2
        | .bk e2 h2 => .nx e2 h2
        | r => r) else .no
def msFor (it : MI) (g : MG) (b : MS) : MS := fun env h => (it env h).bindS env fun src h1 => forM src g b (src.many h1 + 1) 0 env h1
section
variable {X : Cx} {G : Cf} {W : WX} {iter tg : Expr} {body : List Stmt} {it : MI} {g : MG} {ws : List Nat} {b : MS} {pos : Pos}
theorem ms_for (hc : X.calm = true) (hp : PassesOwn (model X.prog X.w) X.A X.env X.xe) (hi : PI X tg iter (tI G W it)) (hg : PG X tg (tG G ws g)) (hb : PSs X body (tS G W b)) (hs : ∀ x, foldedSetIterable iter X.env x = pure x := by intro _; rfl) :
    PS X (.For tg iter body [] pos) (tS G W (msFor it g b)) := PS.imp (ps_for hp hc hi hg hb hs) fun D σ H ⟨et, env, h, hE, hH, hP⟩ => by
  refine ⟨et, env, h, hE, hH, (PstS.of_bind hE hP).imp fun et1 H1 h1 src p e hr q J hJ => ?_⟩
  refine ⟨fun i m σ H => ∃ et2 env h, et1 <+: et2 ∧ Ext H1 H ∧ EnvR G et2 H env σ ∧ HRel G et2 h H ∧ PstS G et2 H (forM src g b m i env h) D W, ⟨_, et1, env, h1, List.prefix_rfl, Ext.refl _, hE.mono p e, hr, q⟩, fun i m σ H ⟨et2, env, h, pp, ee, hE2, hr2, q2⟩ => ?_⟩
  cases m with
  | zero => exact q2.elim
  | succ m =>
    unfold forM at q2
    split at q2
    · rename_i hok
      have j := hJ et2 H h pp ee hr2 hok i
      revert j q2
      cases hd : src.get h i with
      | none =>
        intro q2 j
        exact .inl ⟨j, q2 et2 H σ List.prefix_rfl (Ext.refl _) hr2 hE2⟩
      | some d =>
        intro q2 j
        dsimp only at q2
        refine .inr ⟨j.1, fun σ' H' => ∃ et3 env3 h3, et1 <+: et3 ∧ Ext H1 H' ∧ EnvR G et3 H' env3 σ' ∧ HRel G et3 h3 H' ∧ PstS G et3 H' (forM src g b m (i + 1) env3 h3) D W, fun σ' H' x => ⟨m, Nat.lt_succ_self m, x⟩, fun x H' hy => ?_⟩
        obtain ⟨ex, hr3, hx⟩ := j.2 x H' hy
        refine ⟨et2, env, h, d, hE2.mono List.prefix_rfl ex, hr3, hx, ?_⟩
        cases hgd : g d env with
        | none => rw [hgd] at q2; exact q2.elim
        | some e1 =>
          rw [hgd] at q2
          dsimp only at q2
          refine fun σ' _ hE' => ⟨et2, e1, h, hE', hr3, ?_⟩
          have q3 := q2
          revert q3
          cases hbr : b e1 h with
          | nx e2 h2 => exact fun q3 et' H'' σ'' p3 e3 hr4 hE4 => ⟨et', e2, h2, pp.trans p3, (ee.trans ex).trans e3, hE4, hr4, PstS.weak p3 (ex.trans e3) q3⟩
          | ct e2 h2 => exact fun q3 et' H'' σ'' p3 e3 hr4 hE4 => ⟨et', e2, h2, pp.trans p3, (ee.trans ex).trans e3, hE4, hr4, PstS.weak p3 (ex.trans e3) q3⟩
          | bk e2 h2 => exact fun q3 et' H'' σ'' p3 e3 hr4 hE4 => q3 et' H'' σ'' p3 (ex.trans e3) hr4 hE4
          | rt d2 h2 => exact fun q3 et' H'' v p3 e3 hr4 hv => q3 et' H'' v p3 (ex.trans e3) hr4 hv
          | ex c d2 e2 h2 => exact fun q3 et' H'' σ'' cls dd p3 e3 hr4 hE4 hx => q3 et' H'' σ'' cls dd p3 (ex.trans e3) hr4 hE4 hx
          | no => exact fun q3 => q3
    · exact q2.elim
end

/-! ### while -/
def whN (c : MT) (b : MS) : Nat → EV → IH → Option RS
  | 0, _, _ => none
  | k + 1, env, h => match c env h with
    | .ok true h1 => match b env h1 with
      | .nx e2 h2 => whN c b k e2 h2
      | .ct e2 h2 => whN c b k e2 h2
      | .bk e2 h2 => some (.nx e2 h2)
      | r => some r
    | .ok false h1 => some (.nx env h1)
    | .ex cl d h1 => some (.ex cl d env h1)
    | .no => some .no
open Classical in
noncomputable def msWhile (c : MT) (b : MS) : MS := fun env h => if x : ∃ r, ∃ k, whN c b k env h = some r then x.choose else .no
theorem whN_mono {c : MT} {b : MS} : ∀ {k j : Nat} {env : EV} {h : IH} {r : RS}, whN c b k env h = some r → k ≤ j → whN c b j env h = some r
  | 0, _, _, _, _, e, _ => by simp [whN] at e
  | k + 1, 0, _, _, _, _, l => absurd l (Nat.not_succ_le_zero _)
  | k + 1, j + 1, env, h, r, e, l => by
    unfold whN at e ⊢
    have l' : k ≤ j := Nat.le_of_succ_le_succ l
    revert e
    cases c env h with
    | ok a h1 =>
      cases a with
      | false => exact fun e => e
      | true =>
        dsimp only
        cases b env h1 with
        | nx e2 h2 => exact fun e => whN_mono e l'
        | ct e2 h2 => exact fun e => whN_mono e l'
        | bk e2 h2 => exact fun e => e
        | rt d2 h2 => exact fun e => e
        | ex c d2 e2 h2 => exact fun e => e
        | no => exact fun e => e
    | ex cl d h1 => exact fun e => e
    | no => exact fun e => e
theorem msWhile_of {c : MT} {b : MS} {k : Nat} {env : EV} {h : IH} {r : RS} (e : whN c b k env h = some r) : msWhile c b env h = r := by
  unfold msWhile
  have x : ∃ r, ∃ k, whN c b k env h = some r := ⟨r, k, e⟩
  rw [dif_pos x]
  obtain ⟨j, hj⟩ := x.choose_spec
  have h1 := whN_mono e (Nat.le_max_left k j)
  have h2 := whN_mono hj (Nat.le_max_right k j)
  rw [h1] at h2
  exact (Option.some.inj h2).symm
/-- one turn of a while -/
theorem msWhile_eq (c : MT) (b : MS) (env : EV) (h : IH) : msWhile c b env h = match c env h with
    | .ok true h1 => match b env h1 with
      | .nx e2 h2 => msWhile c b e2 h2
      | .ct e2 h2 => msWhile c b e2 h2
      | .bk e2 h2 => .nx e2 h2
      | r => r
    | .ok false h1 => .nx env h1
    | .ex cl d h1 => .ex cl d env h1
    | .no => .no := by
  have go : ∀ e2 h2, (∀ k, whN c b (k + 1) env h = whN c b k e2 h2) → msWhile c b env h = msWhile c b e2 h2 := fun e2 h2 hk => by
    by_cases x : ∃ r, ∃ k, whN c b k e2 h2 = some r
    · obtain ⟨r, k, e⟩ := x
      rw [msWhile_of e]
      exact msWhile_of (k := k + 1) (by rw [hk]; exact e)
    · have y : ¬ ∃ r, ∃ k, whN c b k env h = some r := fun ⟨r, k, e⟩ => by
        cases k with
        | zero => simp [whN] at e
        | succ k => rw [hk] at e; exact x ⟨r, k, e⟩
      unfold msWhile
      rw [dif_neg x, dif_neg y]
  cases hc : c env h with
  | ok a h1 =>
    cases a with
    | false => exact msWhile_of (k := 1) (by unfold whN; rw [hc])
    | true =>
      dsimp only
      cases hb : b env h1 with
      | nx e2 h2 => exact go e2 h2 fun k => by conv => lhs; unfold whN; rw [hc]; dsimp only; rw [hb]
      | ct e2 h2 => exact go e2 h2 fun k => by conv => lhs; unfold whN; rw [hc]; dsimp only; rw [hb]
      | bk e2 h2 => exact msWhile_of (k := 1) (by unfold whN; rw [hc]; dsimp only; rw [hb])
      | rt d2 h2 => exact msWhile_of (k := 1) (by unfold whN; rw [hc]; dsimp only; rw [hb])
      | ex cl d2 e2 h2 => exact msWhile_of (k := 1) (by unfold whN; rw [hc]; dsimp only; rw [hb])
      | no => exact msWhile_of (k := 1) (by unfold whN; rw [hc]; dsimp only; rw [hb])
  | ex cl d h1 => exact msWhile_of (k := 1) (by unfold whN; rw [hc])
  | no => exact msWhile_of (k := 1) (by unfold whN; rw [hc])
section
variable {X : Cx} {G : Cf} {W : WX} {c : Expr} {body : List Stmt} {mc : MT} {b : MS} {pos : Pos}
theorem ms_while (hp : PassesOwn (model X.prog X.w) X.A X.env X.xe) (hc : PT X c (tT G W mc)) (hb : PSs X body (tS G W b)) : PS X (.While c body [] pos) (tS G W (msWhile mc b)) := PS.imp (ps_while hp hc hb) fun D σ H ⟨et, env, h, hE, hH, hP⟩ => by
  unfold msWhile at hP
  split at hP
  · rename_i x
    refine ⟨fun m σ H => ∃ et env h r, EnvR G et H env σ ∧ HRel G et h H ∧ whN mc b m env h = some r ∧ PstS G et H r D W, ⟨_, et, env, h, _, hE, hH, x.choose_spec.choose_spec, hP⟩, ?_⟩
    rintro m σ H ⟨et, env, h, r, hE, hH, e, hP⟩
    cases m with
    | zero => simp [whN] at e
    | succ m =>
      unfold whN at e
      refine ⟨et, env, h, hE, hH, ?_⟩
      revert e
      cases mc env h with
      | ok a h1 =>
        cases a with
        | false =>
          intro e
          cases e
          exact fun et1 H1 p ex hr => (show D.nx σ H1 from hP et1 H1 σ p ex hr (hE.mono p ex))
        | true =>
          intro e et1 H1 p ex hr
          dsimp only
          rw [if_pos rfl]
          refine ⟨fun σ' H' => ∃ et env h r, EnvR G et H' env σ' ∧ HRel G et h H' ∧ whN mc b m env h = some r ∧ PstS G et H' r D W, fun σ' H' x => ⟨m, Nat.lt_succ_self m, x⟩, et1, env, h1, hE.mono p ex, hr, ?_⟩
          dsimp only at e
          revert e
          cases hb : b env h1 with
          | nx e2 h2 => exact fun e et2 H2 σ2 p2 ex2 hr2 hE2 => ⟨et2, e2, h2, r, hE2, hr2, e, PstS.weak (p.trans p2) (ex.trans ex2) hP⟩
          | ct e2 h2 => exact fun e et2 H2 σ2 p2 ex2 hr2 hE2 => ⟨et2, e2, h2, r, hE2, hr2, e, PstS.weak (p.trans p2) (ex.trans ex2) hP⟩
          | bk e2 h2 => intro e; cases e; exact fun et2 H2 σ2 p2 ex2 hr2 hE2 => hP et2 H2 σ2 (p.trans p2) (ex.trans ex2) hr2 hE2
          | rt d2 h2 => intro e; cases e; exact fun et2 H2 v p2 ex2 hr2 hv => hP et2 H2 v (p.trans p2) (ex.trans ex2) hr2 hv
          | ex cl d2 e2 h2 => intro e; cases e; exact fun et2 H2 σ2 cls dd p2 ex2 hr2 hE2 hx => hP et2 H2 σ2 cls dd (p.trans p2) (ex.trans ex2) hr2 hE2 hx
          | no => intro e; cases e; exact hP.elim
      | ex cl d h1 => intro e; cases e; exact fun et1 H1 cls dd p ex hr hx => hP et1 H1 σ cls dd p ex hr (hE.mono p ex) hx
      | no => intro e; cases e; exact hP.elim
  · exact hP.elim
end
end NR

set_option Elab.async false
set_option linter.all false
set_option maxRecDepth 100000
/-! Comprehensions, isinstance, the end. -/
namespace NR
open PySem PySem.Spec PyProof.Rows L2

def wipeE (env : EV) : List Nat → EV
  | [] => env
  | v :: vs => (wipeE env vs).set v none
abbrev W0 : WX := fun _ _ _ _ => False
theorem wipe_get (σ : L2.St) (j : Nat) : ∀ vs : List Nat, (wipe σ vs)[j]? = if j ∈ vs then (if j < σ.length then some none else none) else σ[j]?
  | [] => by simp [wipe]
  | v :: vs => by
    unfold wipe
    by_cases h : v = j
    · subst h
      rw [if_pos List.mem_cons_self]
      by_cases hl : v < σ.length
      · rw [List.getElem?_set_self (by rw [wipe_length]; exact hl), if_pos hl]
      · rw [List.getElem?_eq_none (by rw [List.length_set, wipe_length]; omega), if_neg hl]
    · rw [List.getElem?_set_ne h, wipe_get σ j vs]
      have : (j ∈ v :: vs) ↔ j ∈ vs := by
        rw [List.mem_cons]
        exact ⟨fun z => z.elim (fun z => absurd z.symm h) id, .inr⟩
      simp only [this]
theorem wipe_again {σ σ2 : L2.St} {vs : List Nat} (h : OnlyS vs (wipe σ vs) σ2) : wipe σ2 vs = wipe σ vs := by
  apply List.ext_getElem?
  intro j
  rw [wipe_get, wipe_get]
  have hl : σ2.length = σ.length := by rw [h.1, wipe_length]
  by_cases hj : j ∈ vs
  · rw [if_pos hj, if_pos hj, hl]
  · rw [if_neg hj, if_neg hj, h.2 j hj, wipe_out hj]
theorem EnvR.wipe {G : Cf} {et : List Addr} {H : Hp} {env : EV} {σ : L2.St} (x : EnvR G et H env σ) : ∀ vs : List Nat, EnvR G et H (wipeE env vs) (wipe σ vs)
  | [] => x
  | v :: vs => by
    have ih := x.wipe vs
    unfold wipeE L2.wipe
    refine ⟨by simp [ih.1], fun i d e => ?_⟩
    by_cases h : v = i
    · subst h
      by_cases hl : v < (wipeE env vs).length
      · rw [List.getElem?_set_self hl] at e; cases e
      · rw [List.getElem?_eq_none (by rw [List.length_set]; omega)] at e; cases e
    · rw [List.getElem?_set_ne h] at e
      obtain ⟨u, a, b⟩ := ih.2 i d e
      exact ⟨u, by rw [List.getElem?_set_ne h]; exact a, b⟩
def mYes : MT := fun _ h => .ok true h
def lcM (src : Src) (g : MG) (t : MT) (e : ME) (n : Nat) : Nat → Nat → EV → IH → R D
  | 0, _, _, _ => .no
  | m + 1, i, env, h => if src.ok h = true then (match src.get h i with
    | none => .ok (.ref n) h
    | some d => match g d env with
      | none => .no
      | some e1 => match t e1 h with
        | .ok true h2 => match e e1 h2 with
          | .ok y h3 => match h3[n]? with
            | some (.lst acc) => if acc.length < 10000000 then lcM src g t e n m (i + 1) env (h3.set n (.lst (acc ++ [y]))) else .no
            | _ => .no
          | _ => .no
        | .ok false h2 => lcM src g t e n m (i + 1) env h2
        | _ => .no) else .no
def mLc (it : MI) (g : MG) (t : MT) (e : ME) (ws : List Nat) : ME := fun env h => (it env h).bind fun src h1 => lcM src g t e h1.length (src.many h1 + 1) 0 (wipeE env ws) (h1 ++ [.lst []])
section
variable {X : Cx} {G : Cf} {W : WX} {elt tg iter : Expr} {ifs : List Expr} {scope : Scope} {own : List (Str × Nat)} {it : MI} {g : MG} {t : MT} {e : ME} {pos : Pos}
theorem mts_nil : PTs X [] (tT G W mYes) := ⟨fun pins s σ H Q I ⟨et, env, h, hE, hH, hP⟩ => pts_nil.run pins s σ H Q I (show Q true H from hP.here hH)⟩
theorem mts_one {c : Expr} {m : MT} (h : PT X c (tT G W m)) : PTs X [c] (tT G W m) := pts_one h
theorem tLc_of {σ : L2.St} {H : Hp} {Q : VK} (x : tE G W (mLc it g t e (own.map (·.2))) σ H Q) : tLc (tI G W it) (tG G (own.map (·.2)) g) (tT G W0 t) (tE G W0 e) (own.map (·.2)) σ H Q := by
  obtain ⟨et, env, h, hE, hH, hP⟩ := x
  refine ⟨et, env, h, hE, hH, (Pst.of_bind hP).imp fun et1 H1 h1 src p ex hr q J hJ Dd hD => ?_⟩
  have pf : et1 <+: et1 ++ [Dd] := List.prefix_append _ _
  have ex0 : Ext H1 (upd H1 Dd (.lst [])) := Ext.new hD
  have hr0 : HRel G (et1 ++ [Dd]) (h1 ++ [.lst []]) (upd H1 Dd (.lst [])) := hr.push hD ⟨[], upd_same, by simp⟩
  have hE0 : EnvR G (et1 ++ [Dd]) (upd H1 Dd (.lst [])) env σ := (hE.mono p ex).mono pf ex0
  have at0 : (et1 ++ [Dd])[h1.length]? = some Dd := by
    rw [← hr.len, List.getElem?_append_right (Nat.le_refl _), Nat.sub_self]
    rfl
  refine ⟨fun i m H => ∃ et2 h, et1 ++ [Dd] <+: et2 ∧ Ext H1 H ∧ EnvR G et2 H (wipeE env (own.map (·.2))) (wipe σ (own.map (·.2))) ∧ HRel G et2 h H ∧ Pst G et2 H (lcM src g t e h1.length m i (wipeE env (own.map (·.2))) h) (fun et' H' _ d => ∀ v, Den G et' H' d v → Q v H') (fun c d H' => W c d σ H'),
    ⟨_, et1 ++ [Dd], h1 ++ [.lst []], List.prefix_rfl, ex0, hE0.wipe _, hr0, Pst.weak pf ex0 q⟩, fun i m H ⟨et2, h, pp, ee, hE2, hr2, q2⟩ => ?_⟩
  have at2 : et2[h1.length]? = some Dd := by
    obtain ⟨t2, rfl⟩ := pp
    rw [List.getElem?_append_left (List.getElem?_eq_some_iff.mp at0).1]
    exact at0
  cases m with
  | zero => exact q2.elim
  | succ m =>
    unfold lcM at q2
    split at q2
    · rename_i hok
      have j := hJ et2 H h (pf.trans pp) ee hr2 hok i
      revert j q2
      cases hd : src.get h i with
      | none =>
        intro q2 j
        exact .inl ⟨j, q2.here hr2 _ (den_ref.mpr ⟨Dd, at2, rfl⟩)⟩
      | some d =>
        intro q2 j
        dsimp only at q2
        refine .inr ⟨j.1, fun H' => ∃ et3 h3, et1 ++ [Dd] <+: et3 ∧ Ext H1 H' ∧ EnvR G et3 H' (wipeE env (own.map (·.2))) (wipe σ (own.map (·.2))) ∧ HRel G et3 h3 H' ∧ Pst G et3 H' (lcM src g t e h1.length m (i + 1) (wipeE env (own.map (·.2))) h3) (fun et' H' _ d => ∀ v, Den G et' H' d v → Q v H') (fun c d H' => W c d σ H'),
          fun H' x => ⟨m, Nat.lt_succ_self m, x⟩, fun x H' hy => ?_⟩
        obtain ⟨ex1, hr3, hx⟩ := j.2 x H' hy
        have hE3 := hE2.mono List.prefix_rfl ex1
        refine ⟨et2, _, h, d, hE3, hr3, hx, ?_⟩
        cases hgd : g d (wipeE env (own.map (·.2))) with
        | none => rw [hgd] at q2; exact q2.elim
        | some e1 =>
          rw [hgd] at q2
          dsimp only at q2
          refine fun σ2 o2 hE4 => ⟨wipe_again o2, et2, e1, h, hE4, hr3, ?_⟩
          revert q2
          cases ht : t e1 h with
          | no => exact fun q2 => q2
          | ex _ _ _ => exact fun q2 => q2.elim
          | ok b h2 =>
            cases b with
            | false =>
              intro q2 et4 H4 p4 ex4 hr4
              dsimp only
              rw [if_neg Bool.false_ne_true]
              exact ⟨et4, h2, pp.trans p4, (ee.trans ex1).trans ex4, hE3.mono p4 ex4, hr4, Pst.weak p4 (ex1.trans ex4) q2⟩
            | true =>
              intro q2 et4 H4 p4 ex4 hr4
              dsimp only at q2 ⊢
              rw [if_pos rfl]
              refine ⟨et4, e1, h2, hE4.mono p4 ex4, hr4, ?_⟩
              revert q2
              cases he : e e1 h2 with
              | no => exact fun q2 => q2
              | ex _ _ _ => exact fun q2 => q2.elim
              | ok y h3 =>
                intro q2 et5 H5 p5 ex5 hr5 v hv
                dsimp only at q2
                split at q2
                · rename_i acc hacc
                  split at q2
                  · rename_i hl
                    have at5 : et5[h1.length]? = some Dd := by
                      obtain ⟨t5, rfl⟩ := p4.trans p5
                      rw [List.getElem?_append_left (List.getElem?_eq_some_iff.mp at2).1]
                      exact at2
                    obtain ⟨us, hus, dus⟩ := hr5.cell _ _ _ hacc at5
                    have ex6 : Ext H5 (upd H5 Dd (.lst (us ++ [v]))) := Ext.mut hus True.intro
                    have hr6 := hr5.set (u := .lst (us ++ [v])) (c' := .lst (acc ++ [y])) hacc at5 rfl hus True.intro ⟨_, upd_same, (dus.app (denL_cons.mpr ⟨v, [], rfl, hv, by simp⟩)).mono List.prefix_rfl ex6⟩
                    refine ⟨us, hus, by rw [dus.len, sizeLine_eq]; omega, et5, _, (pp.trans p4).trans p5, (((ee.trans ex1).trans ex4).trans ex5).trans ex6, ((hE3.mono p4 ex4).mono p5 ex5).mono List.prefix_rfl ex6, hr6, ?_⟩
                    exact Pst.weak (p4.trans p5) (((ex1.trans ex4).trans ex5).trans ex6) q2
                  · exact q2.elim
                · exact q2.elim
    · exact q2.elim
theorem me_lc (hc : X.calm = true) (hN : X.N.Nodup) (hi : PI X tg iter (tI G W it)) (ok : BlkOk X.N X.env.scope scope own)
    (hg : ∀ (s : Shared) (H : Hp) (C : Addr) (cl : List (Str × Addr)) (fp : List Addr), PG (X.blk s H scope (compEnvC scope cl C X.env) fp) tg (tG G (own.map (·.2)) g))
    (ht : ∀ (s : Shared) (H : Hp) (C : Addr) (cl : List (Str × Addr)) (fp : List Addr), PTs (X.blk s H scope (compEnvC scope cl C X.env) fp) ifs (tT G W0 t))
    (he : ∀ (s : Shared) (H : Hp) (C : Addr) (cl : List (Str × Addr)) (fp : List Addr), PE (X.blk s H scope (compEnvC scope cl C X.env) fp) elt (tE G W0 e)) (hs : ∀ x, foldedSetIterable iter X.env x = pure x := by intro _; rfl) :
    PE X (.ListComp elt [⟨tg, iter, ifs, 0⟩] scope pos) (tE G W (mLc it g t e (own.map (·.2)))) := PE.imp (pe_lc hc hN hi ok hg ht he hs) fun _ _ _ x => tLc_of x
theorem ms_setLc (i : Nat) {y : Str} {py spos : Pos} (hc : X.calm = true) (hN : X.N.Nodup) (hi : PI X tg iter (tI G W it)) (ok : BlkOk X.N X.env.scope scope own)
    (hg : ∀ (s : Shared) (H : Hp) (C : Addr) (cl : List (Str × Addr)) (fp : List Addr), PG (X.blk s H scope (compEnvC scope cl C X.env) fp) tg (tG G (own.map (·.2)) g))
    (ht : ∀ (s : Shared) (H : Hp) (C : Addr) (cl : List (Str × Addr)) (fp : List Addr), PTs (X.blk s H scope (compEnvC scope cl C X.env) fp) ifs (tT G W0 t))
    (he : ∀ (s : Shared) (H : Hp) (C : Addr) (cl : List (Str × Addr)) (fp : List Addr), PE (X.blk s H scope (compEnvC scope cl C X.env) fp) elt (tE G W0 e))
    (hsw : swapsWith (.ListComp elt [⟨tg, iter, ifs, 0⟩] scope pos) (some (.Name y py)) spos.line X.env = pure true) (hy : X.N[i]? = some y := by rfl) (hyl : X.env.scope.names.lookup y = some .local := by rfl) (hs : ∀ x, foldedSetIterable iter X.env x = pure x := by intro _; rfl) :
    PS X (.Assign [.Name y py] (.ListComp elt [⟨tg, iter, ifs, 0⟩] scope pos) spos) (tS G W (msSet i (mLc it g t e (own.map (·.2))))) := PS.imp (ps_setLc hc hN hy hyl hsw hi ok hg ht he hs) fun D σ H ⟨et, env, h, hE, hH, hP⟩ => by
  refine tLc_of ⟨et, env, h, hE, hH, (PstS.of_bind hE hP).imp fun et1 H1 h1 d p e hr q v hv => q et1 H1 _ List.prefix_rfl (Ext.refl _) hr ((hE.mono p e).set i hv)⟩
end

/-! ### isinstance -/
def isT (T : String) (h : IH) : D → Option Bool
  | .non => kitB "NoneType" T
  | .bl _ => kitB "bool" T
  | .int _ => kitB "int" T
  | .str _ => kitB "str" T
  | .tup _ => kitB "tuple" T
  | .fl _ => kitB "list" T
  | .fd _ _ => kitB "dict" T
  | .ref n => match h[n]? with
    | some (.lst _) => kitB "list" T
    | some (.frz _) => kitB "list" T
    | some (.dk _) => kitB "dict" T
    | _ => none
  | _ => none
def mIs (T : String) (m : ME) : ME := fun env h => (m env h).bind fun x h1 => match isT T h1 x with
  | some b => .ok (.bl b) h1
  | none => .no
section
variable {X : Cx} {G : Cf} {W : WX} {a : Expr} {ma : ME} {pos p p2 : Pos} {T : String} {y : Str}
theorem sqT_ty {K : PySem.W.Frag} {H : Hp} {a : Addr} {vs : List V} (h : SqT K H a vs) : TyX K H (.ref a) (.type "tuple") := by
  rcases h with (h | ⟨o, h⟩) | ⟨o, its, n, hk, hc, _⟩
  · exact .base (.tup h)
  · exact .fTuple h
  · exact .kTuple hk hc
theorem frzL_ty {K : PySem.W.Frag} {H : Hp} {a : Addr} {vs : List V} (h : FrzL K H a vs) : TyX K H (.ref a) (.type "list") := by
  rcases h with ⟨o, h⟩ | ⟨o, its, n, hk, hc, _⟩
  · exact .base (.frz h)
  · exact .kList hk hc
theorem isT_ok {et : List Addr} {H : Hp} {h : IH} (R : HRel G et h H) {x : D} {v : V} {b : Bool} (e : isT T h x = some b) (r : Den G et H x v) : ∃ t, TyX G.K H v t ∧ PySem.W.kitOne G.K t (.type T) = some b := by
  cases x with
  | non => rw [den_non.mp r]; exact ⟨_, .base .non, kit_ty e⟩
  | bl _ => rw [den_bl.mp r]; exact ⟨_, .base (.bl _), kit_ty e⟩
  | int _ => rw [den_int.mp r]; exact ⟨_, .base (.int _), kit_ty e⟩
  | str _ => rw [den_str.mp r]; exact ⟨_, .base (.str _), kit_ty e⟩
  | tup l =>
    obtain ⟨a, vs, rfl, h1, _⟩ := den_tup.mp r
    exact ⟨_, sqT_ty (TpT.sq h1), kit_ty e⟩
  | ref n =>
    obtain ⟨a, h1, rfl⟩ := den_ref.mp r
    simp only [isT] at e
    split at e
    · rename_i xs hx
      obtain ⟨vs, h2, _⟩ := R.cell n _ a hx h1
      exact ⟨_, .base (.lst h2), kit_ty e⟩
    · rename_i xs hx
      obtain ⟨vs, h2, _⟩ := R.cell n _ a hx h1
      exact ⟨_, frzL_ty h2, kit_ty e⟩
    · rename_i xs hx
      obtain ⟨vs, h2, _⟩ := R.cell n _ a hx h1
      exact ⟨_, .base (.dK h2), kit_ty e⟩
    · cases e
  | fl l =>
    obtain ⟨a, vs, rfl, h1, _⟩ := den_fl.mp r
    exact ⟨_, frzL_ty (K := G.K) h1.frz, kit_ty e⟩
  | fd ks l =>
    obtain ⟨a, ws, rfl, ⟨o, h1⟩, _⟩ := den_fd.mp r
    exact ⟨_, .fDict h1, kit_ty e⟩
  | exc a => simp [isT] at e
theorem me_is (hK : X.K = G.K) (ha : PE X a (tE G W ma)) (hm : X.mg "isinstance" = none) (hmT : X.mg y = none) (hv : bootBuiltins "isinstance" = some (.builtin "isinstance") := by decide +kernel) (hvT : bootBuiltins y = some (.type T) := by decide +kernel) (hg : Gl X "isinstance" := by rfl) (hgT : Gl X y := by rfl) (hnT : y ≠ "__name__" := by decide) (hdT : (y == ("__debug__" : Str)) = false := by decide)
    (hs1 : starEach [a, .Name y p2] X.env = (false, eval a X.env) :: starEach [.Name y p2] X.env := by rfl) (hs2 : starEach [.Name y p2] X.env = (false, eval (.Name y p2) X.env) :: starEach [] X.env := by rfl) (hpl : (backTo pos (starEach [.Name y p2] X.env)).any (·.1) = false := by rfl) :
    PE X (.Call (.Name "isinstance" p) [a, .Name y p2] [] pos) (tE G W (mIs T ma)) :=
  PE.imp (pe_callB call_isi hg hm hv (pa_cons ha (pa_cons (pe_bltn (v := .ty T) hgT hmT hvT rfl hnT hdT) pa_nil hs2) hs1) (by decide) (by decide) hs1 hpl) fun σ H Q ⟨et, env, h, hE, hH, hP⟩ => by
    refine ⟨et, env, h, hE, hH, (Pst.of_bind hP).imp fun et1 H1 h1 x p e hr q v hv => ?_⟩
    split at q
    · rename_i b hb
      obtain ⟨t, h2, h3⟩ := isT_ok hr hb hv
      rw [hK]
      exact ⟨v, .ty T, t, _, b, rfl, .ty T, h2, h3, q.here hr _ (by simp)⟩
    · exact q.elim
end
/-! ### the law's promise -/
def spLaw (G : Cf) (fm : MF) : Sp := fun vs H Q E => ∃ (a : Addr) (ns : List Int), vs = [.ref a] ∧ ns.length ≤ 63 ∧ Only H ∧ SqL G.K H a (ns.map V.int) ∧ ∀ H', Q (.bl true) H'
theorem FrzL.of_only {K : PySem.W.Frag} {H : Hp} {a : Addr} {vs : List V} (o : Only H) (h : SqL K H a vs) : FrzL K H a vs := by
  rcases h with (h | ⟨ob, h⟩) | h
  · rcases o a with z | ⟨o', xs, z⟩
    · rw [z] at h; cases h
    · rw [z] at h; cases h
  · exact .inl ⟨ob, h⟩
  · exact .inr h
/-- the law's function says True on every script -/
def LawOk (fm : MF) : Prop := ∀ ns : List Int, ns.length ≤ 63 → ∃ h', fm [.ref 0] [.frz (ns.map D.int)] = .ok (.bl true) h'
theorem law_ok {P : Program} {w : World} {K : PySem.W.Frag} {mg : Str → Option Value} {base : Heap} {CX : CXT} {k : Nat} {f : Addr} {fd : FuncData} {ps : List Str} {G : Cf} {fm : MF} (F : FnOk P w K mg base CX k f fd ps (FSp G 1 fm)) (hl : LawOk fm) : FnOk P w K mg base CX k f fd ps (spLaw G fm) :=
  F.imp fun vs H Q E ⟨a, ns, e, l, o, hS, q⟩ => by
    refine ⟨by rw [e]; rfl, [a], [.ref 0], [.frz (ns.map D.int)], ?_, ⟨rfl, ?_, ?_⟩, ?_⟩
    · rw [e]
      exact denL_cons.mpr ⟨_, [], rfl, den_ref.mpr ⟨a, rfl, rfl⟩, by simp⟩
    · intro n m c c' b h1 h2 h3 h4 f1 f2
      have : n = 0 := by
        have := (List.getElem?_eq_some_iff.mp h3).1
        simp at this
        omega
      subst this
      simp at h1
      subst h1
      cases f1
    · intro n c b h1 h2
      have : n = 0 := by
        have := (List.getElem?_eq_some_iff.mp h2).1
        simp at this
        omega
      subst this
      simp at h1 h2
      subst h1 h2
      exact ⟨_, FrzL.of_only o hS, DenL.ofInts⟩
    · obtain ⟨h', e2⟩ := hl ns l
      rw [e2]
      intro et' H' _ _ _ v hv
      rw [den_bl.mp hv]
      exact q H'
end NR

set_option Elab.async false
set_option linter.all false
set_option maxRecDepth 100000
/-! o[i] op= e; callees. -/
namespace NR
open PySem PySem.Spec PyProof.Rows L2
section
variable {X : Cx}
theorem get_list : PGet X (rIxL X.K) := by
  intro pins s σ H x y v u Q I rx ry h
  obtain ⟨p, xs, i, z, rfl, rfl, hq, he, q⟩ := h
  cases rx
  obtain ⟨t, rfl⟩ := ry
  obtain ⟨its, r, pl, hz⟩ := I.list hq
  obtain ⟨j, h1, h2, h3, h4, h5⟩ := atI_get he
  obtain ⟨w, ew, rw'⟩ := r.get h2
  have hl := r.length
  have hn := line63
  have fin : EP X pins σ Q w s := ⟨z, H, I, rw', q⟩
  by_cases h0 : 0 ≤ i
  · have hj : i.toNat = j := by
      rw [seqIndex_of h0 h5] at h1
      exact Option.some.inj h1
    exact wpAny_getItem_list pl.isList h0 (by omega) (by rw [hj]; simpa using ew) fin
  · have hj : (i + (its.toArray.size : Int)).toNat = j := by
      rw [seqIndex_neg (by omega) h4] at h1
      rw [List.size_toArray, ← hl]
      exact Option.some.inj h1
    exact wpAny_getItem_list_neg pl.isList (by omega) (by rw [List.size_toArray] <;> omega) (by omega) (by rw [hj]; simpa using ew) fin
end
/-- a list's item -/
def getL (o i : D) (h : IH) : Option D := match i with
  | .int k => (lstOf h o).bind fun xs => (ixN xs.length k).bind fun j => xs[j]?
  | _ => none
def msAugI (f : D → D → IH → R D) (mo mi me : ME) : MS := fun env h => (mo env h).bindS env fun o h1 => (mi env h1).bindS env fun i h2 => match getL o i h2 with
  | none => .no
  | some x => (me env h2).bindS env fun y h3 => (f x y h3).bindS env fun z h4 => match putD o i z h4 with
    | some h5 => .nx env h5
    | none => .no
section
variable {X : Cx} {G : Cf} {W : WX} {o i e : Expr} {me mo mi : ME} {pos tpos : Pos} {r : R2} {f : D → D → IH → R D} {op : Operator}
theorem getL_ok {et : List Addr} {H : Hp} {h : IH} {x y d : D} {v w : V} {Q : VK} (R : HRel G et h H) (e : getL x y h = some d) (rx : Den G et H x v) (ry : Den G et H y w) (q : ∀ u, Den G et H d u → Q u H) : rIxL G.K v w H Q := by
  unfold getL at e
  split at e
  · rename_i k
    simp only [Option.bind_eq_some_iff] at e
    obtain ⟨xs, e1, e2⟩ := e
    obtain ⟨a, vs, rfl, h1, h2⟩ := lst_ok R e1 rx
    obtain ⟨u, e3, r3⟩ := atI_den h2 (k := k) (by simpa only [Option.bind_eq_some_iff] using e2)
    exact ⟨a, vs, k, u, rfl, den_int.mp ry, h1, e3, q u r3⟩
  · cases e
theorem ms_augI (hK : X.K = G.K) (hop : OpR X (inplaceOp op) r) (hs : OpS G r f) (ho : PE X o (tE G W mo)) (hi : PE X i (tE G W mi)) (he : PE X e (tE G W me))
    (ha : ∀ ov iv new, augStore i ov iv new = (do holding [new, ov, iv] (setItem ov iv new); release [new, ov, iv] []; pure .next) := by intros; rfl) : PS X (.AugAssign (.Subscript o i tpos) op e pos) (tS G W (msAugI f mo mi me)) :=
  PS.imp (ps_augS ho hi get_list he (tip := r) hop set_list ha) fun D σ H ⟨et, env, h, hE, hH, hP⟩ => by
    refine ⟨et, env, h, hE, hH, (PstS.of_bind hE hP).imp fun et1 H1 h1 o p e hr q vo ho => ?_⟩
    have hE1 := hE.mono p e
    refine ⟨et1, env, h1, hE1, hr, (PstS.of_bind hE1 q).imp fun et2 H2 h2 i p2 e2 hr2 q2 vi hi => ?_⟩
    have hE2 := hE1.mono p2 e2
    have ho2 := ho.mono p2 e2
    revert q2
    cases hg : getL o i h2 with
    | none => exact fun q2 => q2.elim
    | some x =>
      intro q2
      dsimp only at q2
      rw [hK]
      refine getL_ok hr2 hg ho2 hi fun vx hx => ?_
      refine ⟨et2, env, h2, hE2, hr2, (PstS.of_bind hE2 q2).imp fun et3 H3 h3 y p3 e3 hr3 q3 vy hy => ?_⟩
      have hE3 := hE2.mono p3 e3
      refine hs et3 H3 h3 x y vx vy _ _ (hx.mono p3 e3) hy hr3 ((PstS.of_bind hE3 q3).imp fun et4 H4 h4 z p4 e4 hr4 q4 vz hz => ?_)
      have hE4 := hE3.mono p4 e4
      revert q4
      cases hp : putD o i z h4 with
      | none => exact fun q4 => q4.elim
      | some h5 =>
        intro q4
        exact put_ok hr4 hp ((ho2.mono p3 e3).mono p4 e4) ((hi.mono p3 e3).mono p4 e4) hz fun H' ex hr5 => q4 et4 H' σ List.prefix_rfl ex hr5 (hE4.mono List.prefix_rfl ex)
end
/-! ### a def by its name -/
structure FnG (P : Program) (w : World) (K : PySem.W.Frag) (mg : Str → Option Value) (base : Heap) (G : Cf) (x : Str) (k n : Nat) (fm : MF) : Prop where
  ex : ∃ f fd ps, FnOk P w K mg base (L2.CX P w) k f fd ps (FSp G n fm) ∧ mg x = some (.ref f) ∧ PySem.W.keepIn K (.ref f) = true ∧ Binds K fd ps []
section
variable {X : Cx} {G : Cf} {W : WX} {k j n : Nat} {fm : MF} {x : Str} {p pos : Pos} {e : Expr} {es : List Expr} {mt : MA}
theorem me_callG (F : FnG X.prog X.w X.K X.mg X.base G x k n fm) (hr : Room j X.A) (hj : k ≤ j) (tk : Takes X W) (ha : PA X (e :: es) (tA G W mt)) (hg : Gl X x := by rfl) (hdb : (x == ("__debug__" : Str)) = false := by decide)
    (he : starEach (e :: es) X.env = (false, eval e X.env) :: starEach es X.env := by rfl) (hpl : (backTo pos (starEach es X.env)).any (·.1) = false := by rfl) : PE X (.Call (.Name x p) (e :: es) [] pos) (tE G W (mCall n fm mt)) := by
  obtain ⟨f, fd, ps, h1, h2, h3, h4⟩ := F.ex
  exact me_call h1 (hr.mono hj) h2 h3 h4 tk ha hg hdb he hpl
theorem me_callG0 (F : FnG X.prog X.w X.K X.mg X.base G x k n fm) (hr : Room j X.A) (hj : k ≤ j) (tk : Takes X W) (hg : Gl X x := by rfl) (hdb : (x == ("__debug__" : Str)) = false := by decide) : PE X (.Call (.Name x p) [] [] pos) (tE G W (mCall n fm mNil)) := by
  obtain ⟨f, fd, ps, h1, h2, h3, h4⟩ := F.ex
  exact me_call0 h1 (hr.mono hj) h2 h3 h4 tk hg hdb
end
/-- what the written part tells of a def -/
structure DefAt (K : PySem.W.Frag) (mg : Str → Option Value) (x : Str) (st : Stmt) (ps : List Str) : Prop where
  ex : ∃ f fd, Fun K x x st f fd ∧ mg x = some (.ref f) ∧ Binds K fd ps []
theorem DefAt.fn {P : Program} {w : World} {K : PySem.W.Frag} {mg : Str → Option Value} {base : Heap} {G : Cf} {x : Str} {st : Stmt} {ps : List Str} {k n : Nat} {fm : MF} (d : DefAt K mg x st ps) (h : ∀ f fd, Fun K x x st f fd → FnOk P w K mg base (L2.CX P w) k f fd ps (FSp G n fm)) : FnG P w K mg base G x k n fm := by
  obtain ⟨f, fd, h1, h2, h3⟩ := d.ex
  exact ⟨f, fd, ps, h f fd h1, h2, h1.kp, h3⟩
end NR

set_option Elab.async false
set_option linter.all false
set_option maxRecDepth 100000
/-! list(x), tuple(x), a, b = e; constants; the end. -/
namespace NR
open PySem PySem.Spec PyProof.Rows L2
section
variable {X : Cx} {G : Cf} {W : WX}
def rListA (K : PySem.W.Frag) : List V → Hp → VK → Prop := fun xs H Q => ∃ p ys, xs = [.ref p] ∧ (SqL K H p ys ∨ SqT K H p ys) ∧ ∀ l, H l = none → Q (.ref l) (upd H l (.lst ys))
def rTupleA (K : PySem.W.Frag) : List V → Hp → VK → Prop := fun xs H Q => ∃ p ys, xs = [.ref p] ∧ ((SqL K H p ys ∧ ∀ l, H l = none → Q (.ref l) (upd H l (.tup ys))) ∨ (SqT K H p ys ∧ Q (.ref p) H))
theorem call_listA : CallR X (.type "list") (rListA X.K) := call_list_of
theorem call_tupleA : CallR X (.type "tuple") (rTupleA X.K) := call_tuple_of
theorem bList_ok : CallS G (rListA G.K) bList := by
  intro et H h xs vs W Q rv R p
  unfold bList at p
  split at p
  · split at p
    · exact p.elim
    · split at p
      · rename_i ys e
        obtain ⟨v, rfl, h1⟩ := list1 rv
        obtain ⟨a, vs, rfl, h2, h3⟩ := seq_ok R e h1
        exact ⟨a, vs, rfl, h2, p.newL R h3⟩
      · exact p.elim
  · exact p.elim
theorem bTuple_ok : CallS G (rTupleA G.K) bTuple := by
  intro et H h xs vs W Q rv R p
  unfold bTuple at p
  split at p
  · split at p
    · exact p.elim
    · obtain ⟨v, rfl, h1⟩ := list1 rv
      obtain ⟨a, vs, rfl, h2, h3⟩ := den_tup.mp h1
      exact ⟨a, vs, rfl, .inr ⟨h2, p.here R _ h1⟩⟩
    · split at p
      · rename_i ys e
        obtain ⟨v, rfl, h1⟩ := list1 rv
        obtain ⟨a, vs, rfl, h2, h3⟩ := lst_ok R e h1
        exact ⟨a, vs, rfl, .inl ⟨h2, p.newT R h3⟩⟩
      · exact p.elim
  · exact p.elim
def msSetT (g : MG) (m : ME) : MS := fun env h => (m env h).bindS env fun d h1 => match g d env with
  | some e => .nx e h1
  | none => .no
theorem ms_setT {es : List Expr} {k : Nat} {e : Expr} {me : ME} {g : MG} {ws : List Nat} {pos pos' : Pos} (he : PE X e (tE G W me)) (hg : PG X (.Tuple es k pos') (tG G ws g)) (hs : swapsWithSole [.Tuple es k pos'] e pos.line X.env = pure false := by rfl) (hw : swappedStores [.Tuple es k pos'] e X.env = pure none := by rfl)
    (h1 : (assignEach [.Tuple es k pos'] X.env).map (·.2) = [assign (.Tuple es k pos') X.env] := by rfl) : PS X (.Assign [.Tuple es k pos'] e pos) (tS G W (msSetT g me)) :=
  PS.imp (ps_asg he hg hs hw h1) fun D σ H ⟨et, env, h, hE, hH, hP⟩ => by
    refine ⟨et, env, h, hE, hH, (PstS.of_bind hE hP).imp fun et1 H1 h1 d p e hr q v hv => ?_⟩
    refine ⟨et1, env, h1, d, hE.mono p e, hr, hv, ?_⟩
    cases hgd : g d env with
    | none => rw [hgd] at q; exact q.elim
    | some e1 =>
      rw [hgd] at q
      exact fun σ' _ hE' => q et1 H1 σ' List.prefix_rfl (Ext.refl _) hr hE'
end
/-- a constant of the top -/
def GlC (mg : Str → Option Value) (x : Str) (d : D) : Prop := ∃ u, OfC d u ∧ mg x = some u
theorem me_globG {X : Cx} {G : Cf} {W : WX} {x : Str} {d : D} {pos : Pos} (g : GlC X.mg x d) (hg : Gl X x := by rfl) (hd : (x == ("__debug__" : Str)) = false := by decide) : PE X (.Name x pos) (tE G W (mC d)) := by
  obtain ⟨u, h1, h2⟩ := g
  exact me_glob d h1 h2 hg hd
theorem glI_of {K : PySem.W.Frag} {h : Heap} {mg : Str → Option Value} {x : Str} {n : Int} {d : D} (X : K.In h) (Gn : h.Ns mainGlobals mg) (g : ∃ t, PySem.W.nsIn K mainGlobals x = some (some (.int n t))) (e : (match d with | .int m => decide (m = n) | _ => false) = true) : GlC mg x d := by
  obtain ⟨t, g⟩ := g
  cases d with
  | int m =>
    have e' : m = n := by simpa using e
    subst e'
    exact ⟨_, ⟨t, rfl⟩, PySem.W.mg_of X Gn g⟩
  | _ => cases e
theorem glS_of {K : PySem.W.Frag} {h : Heap} {mg : Str → Option Value} {x s : Str} {d : D} (X : K.In h) (Gn : h.Ns mainGlobals mg) (g : ∃ t, PySem.W.nsIn K mainGlobals x = some (some (.str s t))) (e : (match d with | .str m => decide (strV m = s) | _ => false) = true) : GlC mg x d := by
  obtain ⟨t, g⟩ := g
  cases d with
  | str m =>
    have e' : strV m = s := by simpa using e
    subst e'
    exact ⟨_, ⟨t, rfl⟩, PySem.W.mg_of X Gn g⟩
  | _ => cases e
theorem cx_no {P : Program} {w : World} {H : Hp} {s : Shared} {e : Value} {s' : Shared} (hx : L2.CX P w [] H s (fun _ _ _ => False) e s') : False := by
  obtain ⟨_, _, _, _, _, _, _, _, _, _, _, _, z⟩ := hx
  exact z
end NR

set_option Elab.async false
set_option linter.all false
set_option maxRecDepth 100000
/-! Texts: list(s), tuple(s), count, find, index of one sign; displays of dicts. -/
namespace NR
open PySem PySem.Spec PyProof.Rows L2
theorem vals_of_get : ∀ {xs : List V} {us : List Value}, xs.length = us.length → (∀ (i : Nat) (x : V) (u : Value), xs[i]? = some x → us[i]? = some u → RelV x u) → Vals xs us
  | [], [], _, _ => .nil
  | [], _ :: _, h, _ => by simp at h
  | _ :: _, [], h, _ => by simp at h
  | x :: xs, u :: us, h, k => .cons (k 0 x u rfl rfl) (vals_of_get (by simpa using h) fun i a b h1 h2 => k (i + 1) a b (by simpa using h1) (by simpa using h2))
def sgD (s : List Nat) : List D := s.map fun c => .str [c]
def sgV (s : List Nat) : List V := s.map fun c => .str (strV [c])
theorem sg_den {G : Cf} {et : List Addr} {H : Hp} : ∀ {s : List Nat}, DenL G et H (sgD s) (sgV s)
  | [] => by simp [sgD, sgV]
  | c :: s => denL_cons.mpr ⟨_, _, rfl, by simp [strV], sg_den⟩
theorem sg_vals {s : List Nat} {acc : Array Value} (h : ItemsOf (SignAt (strV s)) acc (strV s).cps.size) : Vals (sgV s) acc.toList := by
  obtain ⟨h1, h2⟩ := h
  refine vals_of_get ?_ fun i x u hx hu => ?_
  · simp [sgV, strV] at h1 ⊢
    exact h1.symm
  · obtain ⟨c, t, h3, h4⟩ := h2 i u (by simpa using hu)
    subst h4
    have h5 : s[i]? = some c := by simpa [strV] using h3
    unfold sgV at hx
    rw [List.getElem?_map, h5] at hx
    cases hx
    exact ⟨t, rfl⟩
section
variable {X : Cx} {G : Cf} {W : WX}
def rListS : List V → Hp → VK → Prop := fun xs H Q => ∃ z : List Nat, xs = [.str (strV z)] ∧ z.length ≤ 10000000 ∧ ∀ l, H l = none → Q (.ref l) (upd H l (.lst (sgV z)))
def rTupS : List V → Hp → VK → Prop := fun xs H Q => ∃ z : List Nat, xs = [.str (strV z)] ∧ z.length ≤ 10000000 ∧ ∀ l, H l = none → Q (.ref l) (upd H l (.tup (sgV z)))
theorem call_listS (hc : X.calm = true) : CallR X (.type "list") rListS := by
  intro pins s σ H xs us Q I r h
  obtain ⟨z, rfl, hz, q⟩ := h
  obtain ⟨u, rfl, t, rfl⟩ := vals1 r
  refine call_list_str (I.ok.hd hc) (strV z) t (fun h' tk acc c' hk hD hacc => ?_) (by show (strV z).length ≤ _; rw [strV_length]; exact sz hz)
  refine ⟨.ref s.heap.objs.size, upd H s.heap.objs.size (.lst (sgV z)), I.laid (t' := tk) hk (Nat.le_refl _)
    (show ObjOk X.prog X.w _ _ _ (.lst (sgV z)) from ⟨by simp only [sgV, List.length_map]; exact sz hz, acc.toList, c', sg_vals hacc, by rw [Array.toArray_toList]; exact hD⟩), rfl, q _ (I.hok.fresh (Nat.le_refl _))⟩
theorem call_tupS (hc : X.calm = true) : CallR X (.type "tuple") rTupS := by
  intro pins s σ H xs us Q I r h
  obtain ⟨z, rfl, hz, q⟩ := h
  obtain ⟨u, rfl, t, rfl⟩ := vals1 r
  refine call_tuple_str (I.ok.hd hc) (strV z) t (fun h' tk acc hk hacc => ?_) (by show (strV z).length ≤ _; rw [strV_length]; exact sz hz)
  have I1 : Inv X pins σ H { s with heap := h', toks := tk } := I.kept (t' := tk) hk
  refine ⟨.ref h'.objs.size, upd H h'.objs.size (.tup (sgV z)), I1.laid (t' := tk) (fun b o e => Heap.get?_push_of_some _ e) (Nat.le_refl _)
    (show ObjOk X.prog X.w _ _ _ (.tup (sgV z)) from ⟨by simp only [sgV, List.length_map]; exact sz hz, acc.toList, sg_vals hacc, ?_⟩), rfl, q _ (I1.hok.fresh (Nat.le_refl _))⟩
  have := IsTup.new h' acc.toList.toArray
  simpa using this
def bListX : List D → IH → R D
  | [.str s], h => if s.length ≤ 10000000 then .ok (.ref h.length) (h ++ [.lst (sgD s)]) else .no
  | xs, h => bList xs h
def bTupleX : List D → IH → R D
  | [.str s], h => if s.length ≤ 10000000 then .ok (.tup (sgD s)) h else .no
  | xs, h => bTuple xs h
def rListX (K : PySem.W.Frag) : List V → Hp → VK → Prop := fun xs H Q => rListA K xs H Q ∨ rListS xs H Q
def rTupleX (K : PySem.W.Frag) : List V → Hp → VK → Prop := fun xs H Q => rTupleA K xs H Q ∨ rTupS xs H Q
theorem call_listX (hc : X.calm = true) : CallR X (.type "list") (rListX X.K) := CallR.or call_listA (call_listS hc)
theorem call_tupleX (hc : X.calm = true) : CallR X (.type "tuple") (rTupleX X.K) := CallR.or call_tupleA (call_tupS hc)
theorem bListX_ok : CallS G (rListX G.K) bListX := by
  intro et H h xs vs W Q rv R p
  unfold bListX at p
  split at p
  · rename_i s
    obtain ⟨v, rfl, r⟩ := list1 rv
    split at p
    · rename_i l
      exact .inr ⟨s, by rw [den_str.mp r], l, p.newL R sg_den⟩
    · exact p.elim
  · exact .inl (bList_ok et H h xs vs W Q rv R p)
theorem bTupleX_ok : CallS G (rTupleX G.K) bTupleX := by
  intro et H h xs vs W Q rv R p
  unfold bTupleX at p
  split at p
  · rename_i s
    obtain ⟨v, rfl, r⟩ := list1 rv
    split at p
    · rename_i l
      exact .inr ⟨s, by rw [den_str.mp r], l, p.newT R sg_den⟩
    · exact p.elim
  · exact .inl (bTuple_ok et H h xs vs W Q rv R p)
end

/-! ### places of a sign -/
def fnd (c : Nat) : List Nat → Option Nat
  | [] => none
  | d :: s => if d = c then some 0 else (fnd c s).map (· + 1)
theorem fnd_none {c : Nat} : ∀ {s : List Nat}, fnd c s = none ↔ c ∉ s
  | [] => by simp [fnd]
  | d :: s => by
    unfold fnd
    by_cases e : d = c
    · simp [e]
    · rw [if_neg e]
      simp [fnd_none (s := s), Ne.symm e]
theorem fnd_some {c : Nat} : ∀ {s : List Nat} {i : Nat}, fnd c s = some i ↔ s[i]? = some c ∧ ∀ k, k < i → s[k]? ≠ some c
  | [], i => by simp [fnd]
  | d :: s, i => by
    unfold fnd
    by_cases e : d = c
    · rw [if_pos e]
      subst e
      constructor
      · intro h
        cases h
        exact ⟨rfl, fun k hk => absurd hk (Nat.not_lt_zero k)⟩
      · rintro ⟨h1, h2⟩
        cases i with
        | zero => rfl
        | succ i => exact absurd rfl (h2 0 (Nat.succ_pos i))
    · rw [if_neg e]
      cases i with
      | zero =>
        simp only [List.getElem?_cons_zero, Option.some.injEq, e, false_and, iff_false]
        cases fnd c s <;> simp
      | succ i =>
        rw [show (Option.map (· + 1) (fnd c s) = some (i + 1)) ↔ fnd c s = some i by cases fnd c s <;> simp, fnd_some (s := s)]
        constructor
        · rintro ⟨h1, h2⟩
          refine ⟨by simpa using h1, fun k hk => ?_⟩
          cases k with
          | zero => simpa using e
          | succ k => simpa using h2 k (by omega)
        · rintro ⟨h1, h2⟩
          exact ⟨by simpa using h1, fun k hk => by simpa using h2 (k + 1) (by omega)⟩
open Builtin.Str StrLaws in
theorem occ_fnd (s : List Nat) (c : Nat) : (match fnd c s with | some i => ∃ r, occurrences (strV s) (strV [c]) 0 (strV s).length 1 = i :: r | none => occurrences (strV s) (strV [c]) 0 (strV s).length 1 = []) := by
  have at_ : ∀ i, At (strV s) (strV [c]) (strV s).length i ↔ s[i]? = some c := fun i => by
    have := subAt_one (strV s) c i
    simpa [strV, At] using this
  rcases occ_head (strV s) (strV [c]) 1 (Nat.le_refl 1) with ⟨h1, h2⟩ | ⟨i, r, h1, h2, h3⟩
  · have : fnd c s = none := fnd_none.mpr fun hm => by
      obtain ⟨i, hi⟩ := List.mem_iff_getElem?.mp hm
      exact h2 i ((at_ i).mpr hi)
    rw [this]
    exact h1
  · have : fnd c s = some i := fnd_some.mpr ⟨(at_ i).mp h2, fun k hk e => h3 k hk ((at_ k).mpr e)⟩
    rw [this]
    exact ⟨r, h1⟩
open Builtin.Str StrLaws in
theorem occ_go (s : List Nat) (c limit : Nat) : ∀ (l : List Nat) (st : Array Nat × Nat), l.Pairwise (· < ·) → (∀ i ∈ l, st.2 ≤ i) → st.1.size + l.length ≤ limit →
    (forIn l st (occBody (strV s) (strV [c]) (strV s).length limit)).run.fst.toList = st.1.toList ++ l.filter (fun i => decide (s[i]? = some c))
  | [], st, _, _, _ => by simp
  | a :: l, st, hp, hf, hl => by
    have hp' := List.pairwise_cons.mp hp
    have ha : st.2 ≤ a := hf a List.mem_cons_self
    rw [List.length_cons] at hl
    have at_ : (a + (strV [c]).length ≤ (strV s).length ∧ subAt (strV s) (strV [c]) a = true) ↔ s[a]? = some c := by
      have := subAt_one (strV s) c a
      simpa [strV] using this
    rw [List.forIn_cons]
    unfold occBody
    by_cases hc : s[a]? = some c
    · have c1 : ((st.fst.size < limit ∧ st.snd ≤ a) ∧ a + (strV [c]).length ≤ (strV s).length) ∧ subAt (strV s) (strV [c]) a = true := ⟨⟨⟨by omega, ha⟩, (at_.mpr hc).1⟩, (at_.mpr hc).2⟩
      rw [if_pos c1]
      refine (occ_go s c limit l (st.1.push a, a + (strV [c]).length) hp'.2 (fun i hi => ?_) (by simp; omega)).trans ?_
      · have := hp'.1 i hi
        show a + (strV [c]).length ≤ i
        rw [strV_length]
        exact this
      · rw [List.filter_cons, if_pos (by simpa using hc)]
        simp
    · have c2 : ¬ (((st.fst.size < limit ∧ st.snd ≤ a) ∧ a + (strV [c]).length ≤ (strV s).length) ∧ subAt (strV s) (strV [c]) a = true) := fun z => hc (at_.mp ⟨z.1.2, z.2⟩)
      rw [if_neg c2]
      refine (occ_go s c limit l (st.1, st.2) hp'.2 (fun i hi => hf i (List.mem_cons_of_mem _ hi)) (by show st.1.size + l.length ≤ limit; omega)).trans ?_
      rw [List.filter_cons, if_neg (by simpa using hc)]
theorem filter_range (c : Nat) : ∀ (s : List Nat) (n : Nat), s.length ≤ n → ((List.range n).filter (fun i => decide (s[i]? = some c))).length = s.count c
  | [], n, _ => by simp
  | d :: s, 0, h => by simp at h
  | d :: s, n + 1, h => by
    rw [List.range_succ_eq_map, List.filter_cons, List.filter_map]
    have ih := filter_range c s n (by simpa using h)
    have e : ((fun i => decide ((d :: s)[i]? = some c)) ∘ Nat.succ) = fun i => decide (s[i]? = some c) := by funext i; simp
    rw [e]
    by_cases hd : d = c
    · subst hd
      simp [ih]
    · simp [ih, hd]
theorem count_one (s : List Nat) (c : Nat) : Txt.count (strV s) (strV [c]) = (s.count c : Nat) := by
  unfold Txt.count
  rw [StrLaws.occ_eq]
  have h := occ_go s c ((strV s).length + 1) (List.range' 0 ((strV s).length + 1 - 0)) (#[], 0) (List.pairwise_lt_range') (fun _ _ => Nat.zero_le _) (by simp)
  rw [h]
  have e : List.range' 0 ((strV s).length + 1 - 0) = List.range (s.length + 1) := by rw [strV_length, List.range_eq_range']; rfl
  rw [e]
  show (((([] : List Nat) ++ _).length : Nat) : Int) = _
  rw [List.nil_append, filter_range c s _ (by omega)]
theorem find_one (s : List Nat) (c : Nat) : Txt.find (strV s) (strV [c]) = match fnd c s with | some i => (i : Int) | none => -1 := by
  have := occ_fnd s c
  unfold Txt.find
  revert this
  cases fnd c s with
  | none => intro h; rw [h]
  | some i => rintro ⟨r, h⟩; rw [h]
def fCount : D → List D → IH → R D
  | .str s, [.str [c]], h => .ok (.int (s.count c : Nat)) h
  | _, _, _ => .no
def fFind : D → List D → IH → R D
  | .str s, [.str [c]], h => .ok (.int (match fnd c s with | some i => (i : Int) | none => -1)) h
  | _, _, _ => .no
def fIndex : D → List D → IH → R D
  | .str s, [.str [c]], h => match fnd c s with
    | some i => .ok (.int (i : Nat)) h
    | none => .no
  | _, _, _ => .no
section
variable {X : Cx} {G : Cf} {W : WX}
theorem fCount_ok : MethS G (fun x xs H Q => ∃ a b, x = .str a ∧ xs = [.str b] ∧ Q (.int (Txt.count a b)) H) fCount := by
  intro et H h x v xs vs W Q rx rv R p
  unfold fCount at p
  split at p
  · obtain ⟨w, rfl, r⟩ := list1 rv
    exact ⟨_, _, den_str.mp rx, by rw [den_str.mp r], p.here R _ (by rw [count_one]; simp)⟩
  · exact p.elim
theorem fFind_ok : MethS G (fun x xs H Q => ∃ a b, x = .str a ∧ xs = [.str b] ∧ Q (.int (Txt.find a b)) H) fFind := by
  intro et H h x v xs vs W Q rx rv R p
  unfold fFind at p
  split at p
  · obtain ⟨w, rfl, r⟩ := list1 rv
    exact ⟨_, _, den_str.mp rx, by rw [den_str.mp r], p.here R _ (by rw [find_one]; simp)⟩
  · exact p.elim
theorem fIndex_ok : MethS G (fun x xs H Q => ∃ a b i rest, x = .str a ∧ xs = [.str b] ∧ Builtin.Str.occurrences a b 0 a.length 1 = i :: rest ∧ Q (.int (i : Nat)) H) fIndex := by
  intro et H h x v xs vs W Q rx rv R p
  unfold fIndex at p
  split at p
  · rename_i s c
    obtain ⟨w, rfl, r⟩ := list1 rv
    have o := occ_fnd s c
    revert p o
    cases fnd c s with
    | none => exact fun p => p.elim
    | some i =>
      rintro p ⟨rest, o⟩
      exact ⟨_, _, i, rest, den_str.mp rx, by rw [den_str.mp r], o, p.here R _ (by simp)⟩
  · exact p.elim
end

/-! ### displays of dicts: texts and ints as keys -/
def keyD? : D → Option DKey
  | .int i => some (.inl i)
  | .str s => some (.inr s)
  | _ => none
def putKD {κ : Type} [DecidableEq κ] (kvs : List (κ × D)) (k : κ) (v : D) : List (κ × D) := if (kvs.any fun p => decide (p.1 = k)) = true then kvs.map (fun p => if p.1 = k then (p.1, v) else p) else kvs ++ [(k, v)]
def mPr : List (ME × ME) → EV → IH → R (List (D × D))
  | [], _, h => .ok [] h
  | (k, v) :: r, env, h => (k env h).bind fun x h1 => (v env h1).bind fun y h2 => (mPr r env h2).bind fun ps h3 => .ok ((x, y) :: ps) h3
def keyPs : List (D × D) → Option (List (DKey × D))
  | [] => some []
  | p :: r => match keyD? p.1, keyPs r with
    | some k, some l => some ((k, p.2) :: l)
    | _, _ => none
def dkAt (h : IH) (n : Nat) : Bool := match h[n]? with
  | some (.dk []) => true
  | _ => false
def mDict (ps : List (ME × ME)) : ME := fun env h => (mPr ps env (h ++ [.dk []])).bind fun qs h1 => match keyPs qs with
  | some kvs => if kvs.length ≤ 15 ∧ dkAt h1 h.length = true then .ok (.ref h.length) (h1.set h.length (.dk (kvs.foldl (fun acc p => putKD acc p.1 p.2) []))) else .no
  | none => .no
theorem keyV_inj {a b : DKey} (e : keyV a = keyV b) : a = b := by
  cases a <;> cases b <;> simp [keyV] at e
  · rw [e]
  · rw [strV_inj e]
theorem any_keys {κ κ' : Type} [DecidableEq κ] [DecidableEq κ'] {f : κ → κ'} (inj : ∀ a b, f a = f b → a = b) (k : κ) : ∀ {kvs : List (κ × D)} {ws : List (κ' × V)}, ws.map (·.1) = kvs.map (fun p => f p.1) → (ws.any fun p => decide (p.1 = f k)) = kvs.any fun p => decide (p.1 = k)
  | [], [], _ => rfl
  | [], _ :: _, h => by simp at h
  | _ :: _, [], h => by simp at h
  | p :: kvs, q :: ws, h => by
    simp only [List.map_cons, List.cons.injEq] at h
    rw [List.any_cons, List.any_cons, any_keys inj k h.2, h.1]
    congr 1
    exact decide_eq_decide.mpr ⟨inj _ _, fun e => by rw [e]⟩
theorem denK_set {κ κ' : Type} [DecidableEq κ] [DecidableEq κ'] {f : κ → κ'} (inj : ∀ a b, f a = f b → a = b) {G : Cf} {et : List Addr} {H : Hp} {k : κ} {d : D} {v : V} (r : Den G et H d v) : ∀ {kvs : List (κ × D)} {ws : List (κ' × V)}, DenK f G et H kvs ws →
    DenK f G et H (kvs.map fun p => if p.1 = k then (p.1, d) else p) (ws.map fun p => if p.1 = f k then (p.1, v) else p)
  | [], [], _ => ⟨rfl, by simp⟩
  | [], _ :: _, h => by have := h.1; simp at this
  | _ :: _, [], h => by have := h.1; simp at this
  | p :: kvs, q :: ws, h => by
    obtain ⟨h1, h2⟩ := h
    simp only [List.map_cons, List.cons.injEq] at h1
    simp only [List.map_cons] at h2
    obtain ⟨v0, ws0, e0, h3, h4⟩ := denL_cons.mp h2
    simp only [List.cons.injEq] at e0
    obtain ⟨rfl, rfl⟩ := e0
    obtain ⟨i1, i2⟩ := denK_set inj r (kvs := kvs) (ws := ws) ⟨h1.2, h4⟩
    by_cases e : p.1 = k
    · have e' : q.1 = f k := by rw [h1.1, e]
      refine ⟨?_, ?_⟩
      · simp only [List.map_cons, e, e', if_pos]
        rw [i1]
      · simp only [List.map_cons, if_pos e, if_pos e']
        exact denL_cons.mpr ⟨v, _, rfl, r, i2⟩
    · have e' : ¬ q.1 = f k := fun z => e (inj _ _ (h1.1.symm.trans z))
      refine ⟨?_, ?_⟩
      · simp only [List.map_cons, if_neg e, if_neg e']
        rw [i1, h1.1]
      · simp only [List.map_cons, if_neg e, if_neg e']
        exact denL_cons.mpr ⟨q.2, _, rfl, h3, i2⟩
theorem denK_put {κ κ' : Type} [DecidableEq κ] [DecidableEq κ'] {f : κ → κ'} (inj : ∀ a b, f a = f b → a = b) {G : Cf} {et : List Addr} {H : Hp} {k : κ} {d : D} {v : V} (r : Den G et H d v) {kvs : List (κ × D)} {ws : List (κ' × V)} (h : DenK f G et H kvs ws) :
    DenK f G et H (putKD kvs k d) (putK ws (f k) v) := by
  unfold putKD putK
  rw [any_keys inj k h.1]
  split
  · exact denK_set inj r h
  · exact ⟨by simp [h.1], by
      rw [List.map_append, List.map_append]
      exact DenL.app h.2 (denL_cons.mpr ⟨v, [], rfl, r, by simp⟩)⟩
theorem denK_fold {G : Cf} {et : List Addr} {H : Hp} : ∀ {more : List (DKey × D)} {mw : List (Key × V)} {kvs : List (DKey × D)} {ws : List (Key × V)}, DenK keyV G et H more mw → DenK keyV G et H kvs ws → DenK keyV G et H (more.foldl (fun acc p => putKD acc p.1 p.2) kvs) (mergeK ws mw)
  | [], [], _, _, _, h => h
  | [], _ :: _, _, _, h, _ => by have := h.1; simp at this
  | _ :: _, [], _, _, h, _ => by have := h.1; simp at this
  | p :: more, q :: mw, kvs, ws, h, h0 => by
    obtain ⟨h1, h2⟩ := h
    simp only [List.map_cons, List.cons.injEq] at h1
    simp only [List.map_cons] at h2
    obtain ⟨v0, ws0, e0, h3, h4⟩ := denL_cons.mp h2
    simp only [List.cons.injEq] at e0
    obtain ⟨rfl, rfl⟩ := e0
    show DenK keyV G et H (more.foldl _ (putKD kvs p.1 p.2)) (mergeK (putK ws q.1 q.2) mw)
    refine denK_fold ⟨h1.2, h4⟩ ?_
    rw [h1.1]
    exact denK_put (fun a b => keyV_inj) h3 h0
theorem keyPs_ok {G : Cf} {et : List Addr} {H : Hp} : ∀ {ps : List (D × D)} {kvs : List (DKey × D)} {vs : List (V × V)}, keyPs ps = some kvs → DenL G et H (ps.map (·.1)) (vs.map (·.1)) → DenL G et H (ps.map (·.2)) (vs.map (·.2)) → ∃ ws : List (Key × V), vs = ws.map (fun kv => (kV kv.1, kv.2)) ∧ DenK keyV G et H kvs ws
  | [], kvs, [], e, _, _ => by
    simp only [keyPs, Option.some.injEq] at e
    subst e
    exact ⟨[], rfl, rfl, by simp⟩
  | [], _, _ :: _, _, h, _ => by
    have := h.len
    simp at this
  | _ :: _, _, [], _, h, _ => by
    have := h.len
    simp at this
  | p :: ps, kvs, q :: vs, e, h1, h2 => by
    unfold keyPs at e
    split at e
    · rename_i k l e1 e2
      cases e
      simp only [List.map_cons] at h1 h2
      obtain ⟨v0, w0, z0, a1, a2⟩ := denL_cons.mp h1
      simp only [List.cons.injEq] at z0
      obtain ⟨rfl, rfl⟩ := z0
      obtain ⟨v0, w0, z0, b1, b2⟩ := denL_cons.mp h2
      simp only [List.cons.injEq] at z0
      obtain ⟨rfl, rfl⟩ := z0
      obtain ⟨ws, rfl, c1, c2⟩ := keyPs_ok e2 a2 b2
      refine ⟨(keyV k, q.2) :: ws, ?_, ?_, ?_⟩
      · have : q.1 = kV (keyV k) := by
          unfold keyD? at e1
          split at e1
          · rename_i i he; cases e1; rw [he] at a1; exact den_int.mp a1
          · rename_i i he; cases e1; rw [he] at a1; exact den_str.mp a1
          · cases e1
        obtain ⟨q1, q2⟩ := q
        simp only at this
        subst this
        rfl
      · simp [c1]
      · exact denL_cons.mpr ⟨q.2, _, rfl, b1, c2⟩
    · cases e
section
variable {X : Cx} {G : Cf} {W : WX} {pos : Pos}
/-- the pairs of a display -/
structure Prs (X : Cx) (G : Cf) (W : WX) (pos : Pos) (keys : List (Option Expr)) (values : List Expr) (ps : List (ME × ME)) : Prop where
  pp : PPs X pos keys values (ps.map fun p => (tE G W p.1, tE G W p.2))
theorem prs_nil : Prs X G W pos [] [] [] := ⟨pps_nil⟩
theorem prs_cons {k v : Expr} {ks : List (Option Expr)} {vs : List Expr} {mk mv : ME} {ps : List (ME × ME)} (hk : PE X k (tE G W mk)) (hv : PE X v (tE G W mv)) (h : Prs X G W pos ks vs ps) : Prs X G W pos (some k :: ks) (v :: vs) ((mk, mv) :: ps) := ⟨pps_cons hk hv h.pp⟩
theorem tPairs_of {σ : L2.St} : ∀ {ps : List (ME × ME)} {H : Hp} {Q : List (V × V) → Hp → Prop} {et : List Addr} {env : EV} {h : IH}, EnvR G et H env σ → HRel G et h H →
    Pst G et H (mPr ps env h) (fun et' H' h' qs => HRel G et' h' H' → ∀ vs : List (V × V), DenL G et' H' (qs.map (·.1)) (vs.map (·.1)) → DenL G et' H' (qs.map (·.2)) (vs.map (·.2)) → Q vs H') (fun c d H' => W c d σ H') →
    tPairs (ps.map fun p => (tE G W p.1, tE G W p.2)) σ H Q
  | [], H, Q, et, env, h, hE, hH, hP => hP et H List.prefix_rfl (Ext.refl H) hH hH [] (by simp) (by simp)
  | (k, v) :: ps, H, Q, et, env, h, hE, hH, hP => by
    refine ⟨et, env, h, hE, hH, (Pst.of_bind hP).imp fun et1 H1 h1 x p1 e1 hr1 q1 vx hx => ?_⟩
    have hE1 := hE.mono p1 e1
    refine ⟨et1, env, h1, hE1, hr1, (Pst.of_bind q1).imp fun et2 H2 h2 y p2 e2 hr2 q2 vy hy => ?_⟩
    have hE2 := hE1.mono p2 e2
    refine tPairs_of hE2 hr2 ((Pst.of_bind q2).imp fun et3 H3 h3 qs p3 e3 hr3 q3 _ vs a1 a2 => ?_)
    exact q3 et3 H3 List.prefix_rfl (Ext.refl _) hr3 hr3 ((vx, vy) :: vs) (denL_cons.mpr ⟨vx, _, rfl, (hx.mono p2 e2).mono p3 e3, a1⟩) (denL_cons.mpr ⟨vy, _, rfl, hy.mono p3 e3, a2⟩)
theorem me_dict {keys : List (Option Expr)} {values : List Expr} {ps : List (ME × ME)} (h : Prs X G W pos keys values ps) (hall : keys.all (·.isSome) = true := by rfl) (hl : keys.length = values.length := by rfl) (h0 : keys ≠ [] := by exact fun z => nomatch z) (h15 : keys.length ≤ 15 := by decide) :
    PE X (.Dict keys values pos) (tE G W (mDict ps)) := PE.imp (pe_disp h.pp hall hl h0 h15) fun σ H Q ⟨et, env, h, hE, hH, hP⟩ p hp => by
  have hH1 : HRel G (et ++ [p]) (h ++ [.dk []]) (upd H p (.dK [])) := hH.push hp ⟨[], upd_same, rfl, by simp⟩
  have pf : et <+: et ++ [p] := List.prefix_append _ _
  refine tPairs_of (hE.mono pf (Ext.new hp)) hH1 ((Pst.of_bind (Pst.weak pf (Ext.new hp) hP)).imp fun et2 H2 h2 qs p2 e2 hr2 q2 => ?_)
  split at q2
  · rename_i kvs ek
    split at q2
    · rename_i c
      intro _ vs a1 a2
      obtain ⟨ws, rfl, k1⟩ := keyPs_ok ek a1 a2
      have hp2 : et2[h.length]? = some p := by
        obtain ⟨t, rfl⟩ := p2
        rw [List.getElem?_append_left (by simp [hH.len]), ← hH.len]
        simp
      have hc := c.2
      unfold dkAt at hc
      split at hc
      · rename_i hcell
        obtain ⟨w0, c1, c2, c3⟩ := hr2.cell _ _ p hcell hp2
        have w00 : w0 = [] := by simpa using c2
        subst w00
        have hl : ws.length = kvs.length := by have := congrArg List.length k1.1; simpa using this
        refine ⟨c1, ws, rfl, by rw [hl]; exact c.1, ?_⟩
        have hcl : CellOk G et2 (upd H2 p (.dK (mergeK [] ws))) p (.dk (kvs.foldl (fun acc p => putKD acc p.1 p.2) [])) :=
          ⟨_, upd_same, (denK_fold k1 (kvs := []) (ws := []) ⟨rfl, by simp⟩).mono List.prefix_rfl (Ext.mut c1 trivial)⟩
        exact q2 et2 _ List.prefix_rfl (Ext.mut c1 trivial) (hr2.set hcell hp2 rfl c1 trivial hcl) _ (den_ref.mpr ⟨p, hp2, rfl⟩)
      · cases hc
    · exact q2.elim
  · exact q2.elim
theorem me_dict0 : PE X (.Dict [] [] pos) (tE G W (mDict [])) := PE.imp pe_dnewK fun σ H Q ⟨et, env, h, hE, hH, hP⟩ p hp => by
  have hH1 : HRel G (et ++ [p]) (h ++ [.dk []]) (upd H p (.dK [])) := hH.push hp ⟨[], upd_same, rfl, by simp⟩
  have e : mDict [] env h = .ok (.ref h.length) (h ++ [.dk []]) := by
    simp [mDict, mPr, R.bind, keyPs, dkAt]
  rw [e] at hP
  refine hP (et ++ [p]) _ (List.prefix_append _ _) (Ext.new hp) hH1 _ (den_ref.mpr ⟨p, ?_, rfl⟩)
  rw [← hH.len]
  simp
end
end NR

set_option Elab.async false
set_option linter.all false
set_option maxRecDepth 100000
/-! Lists and dicts that are locked: values from then on. -/
namespace NR
open PySem PySem.Spec PyProof.Rows L2
open Classical in
/-- what an expression made anew is locked -/
noncomputable def fzR (h : IH) (r : R D) : R D := match r with
  | .ok (.ref n) h' => match h'[n]? with
    | some (.lst xs) => if h.length ≤ n ∧ D.loL h.length xs = true ∧ okB h.length h h' then .ok (.fl xs) (h'.take h.length) else .ok (.ref n) h'
    | some (.dk kvs) => if h.length ≤ n ∧ D.loL h.length (kvs.map (·.2)) = true ∧ okB h.length h h' then .ok (.fd (kvs.map (·.1)) (kvs.map (·.2))) (h'.take h.length) else .ok (.ref n) h'
    | _ => .ok (.ref n) h'
  | r => r
noncomputable def mFz (m : ME) : ME := fun env h => fzR h (m env h)
/-- a variable's list is locked ahead of a statement -/
def msFz (i : Nat) (b : MS) : MS := fun env h => match env[i]? with
  | some (some (.ref n)) => match h[n]? with
    | some (.lst xs) => b (env.set i (some (.fl xs))) (h.set n (.frz xs))
    | _ => b env h
  | _ => b env h
section
variable {G : Cf} {et et' : List Addr} {H H' : Hp} {h h' : IH}
theorem HRel.lock (R : HRel G et h H) {a : Addr} {o u : HO} (ho : H a = some o) (mu : Mut (some o)) (nin : ∀ (n : Nat) (c : Cell), h[n]? = some c → et[n]? = some a → c.isFrz = true) : HRel G et h (upd H a u) := by
  have ex : Ext H (upd H a u) := Ext.mut ho mu
  refine ⟨R.len, R.nd, fun n c b h1 h2 => ?_⟩
  have old := R.cell n c b h1 h2
  by_cases nb : b = a
  · subst nb
    have hf := nin n c h1 h2
    cases c with
    | frz xs =>
      obtain ⟨vs, h5, h6⟩ := old
      exact ⟨vs, h5.ext ex, h6.mono List.prefix_rfl ex⟩
    | _ => cases hf
  · exact old.mono List.prefix_rfl ex fun w e => by rw [upd_ne nb]; exact e
/-- a new cell is locked and forgotten -/
theorem HRel.lockNew {R0 : HRel G et h H} (R : HRel G et' h' H') (p : et <+: et') {n : Nat} {a : Addr} {c : Cell} {o u : HO} (hn : h'[n]? = some c) (ha : et'[n]? = some a) (f : c.isFrz = false) (ho : H' a = some o) (mu : Mut (some o)) (ln : h.length ≤ n)
    (ok : okB h.length h h') : HRel G et (h'.take h.length) (upd H' a u) := by
  have al := okB_all R0 ok
  have R1 := R.cut p al
  rw [R0.len] at R1
  refine R1.lock ho mu fun m c' h1 h2 => ?_
  have hm : m < h.length := by
    have := (List.getElem?_eq_some_iff.mp h1).1
    rw [List.length_take] at this
    omega
  rw [List.getElem?_take_of_lt hm] at h1
  obtain ⟨t, rfl⟩ := p
  have h3 : (et ++ t)[m]? = some a := by
    rw [List.getElem?_append_left (by rw [R0.len]; exact hm)]
    exact h2
  cases hf : c'.isFrz with
  | true => rfl
  | false =>
    have := R.nd m n c' c a h1 hn h3 ha hf f
    omega
end
section
variable {X : Cx} {G : Cf} {W : WX} {e : Expr} {m : ME} {st : Stmt} {b : MS}
theorem me_fz (he : PE X e (tE G W m)) : PE X e (tE G W (mFz m)) := ⟨fun pins s σ H Q I ⟨et, env, h, hE, hH, hP⟩ => by
  have main : Pst G et H (m env h) (fun et' H' _ d => ∀ v, Den G et' H' d v → Q v H' ∨ ∃ a u, H' a = some u ∧ Mut (some u) ∧ ∀ od, Q v (upd H' a (.frz od u))) (fun c d H' => W c d σ H') := by
    have hP : Pst G et H (fzR h (m env h)) _ _ := hP
    revert hP
    cases m env h with
    | no => exact fun z => z
    | ex c d h' => exact fun z => z
    | ok d h' =>
      intro hP
      have dull : Pst G et H (.ok d h') (fun et' H' _ d => ∀ v, Den G et' H' d v → Q v H') (fun c d H' => W c d σ H') → Pst G et H (.ok d h') (fun et' H' _ d => ∀ v, Den G et' H' d v → Q v H' ∨ ∃ a u, H' a = some u ∧ Mut (some u) ∧ ∀ od, Q v (upd H' a (.frz od u))) (fun c d H' => W c d σ H') := fun z => z.imp fun et1 H1 h1 a p e hr q v hv => .inl (q v hv)
      unfold fzR at hP
      split at hP
      · rename_i n h2 heq
        cases heq
        split at hP
        · rename_i xs hx
          split at hP
          · rename_i c
            intro et' H' p e hr v hv
            obtain ⟨a, ha, rfl⟩ := den_ref.mp hv
            obtain ⟨vs, k1, k2⟩ := hr.cell n _ a hx ha
            refine .inr ⟨a, .lst vs, k1, True.intro, fun od => ?_⟩
            have hr2 : HRel G et (h'.take h.length) (upd H' a (.frz od (.lst vs))) := HRel.lockNew (R0 := hH) hr p hx ha rfl k1 True.intro c.1 c.2.2
            have ex : Ext H' (upd H' a (.frz od (.lst vs))) := Ext.mut k1 True.intro
            have lo := c.2.1
            rw [← hH.len] at lo
            exact hP et _ List.prefix_rfl (e.trans ex) hr2 _ (den_fl.mpr ⟨a, vs, rfl, ⟨od, upd_same⟩, (k2.back p lo).mono List.prefix_rfl ex⟩)
          · exact dull hP
        · rename_i xs hx
          split at hP
          · rename_i c
            intro et' H' p e hr v hv
            obtain ⟨a, ha, rfl⟩ := den_ref.mp hv
            obtain ⟨ws, k1, k2, k3⟩ := hr.cell n _ a hx ha
            refine .inr ⟨a, .dK ws, k1, True.intro, fun od => ?_⟩
            have hr2 : HRel G et (h'.take h.length) (upd H' a (.frz od (.dK ws))) := HRel.lockNew (R0 := hH) hr p hx ha rfl k1 True.intro c.1 c.2.2
            have ex : Ext H' (upd H' a (.frz od (.dK ws))) := Ext.mut k1 True.intro
            have lo := c.2.1
            rw [← hH.len] at lo
            exact hP et _ List.prefix_rfl (e.trans ex) hr2 _ (den_fd.mpr ⟨a, ws, rfl, ⟨od, upd_same⟩, by rw [k2, List.map_map]; rfl, (k3.back p lo).mono List.prefix_rfl ex⟩)
          · exact dull hP
        · exact dull hP
      · exact dull hP
  refine thn (he.run pins s σ H _ I ⟨et, env, h, hE, hH, main⟩) fun v s1 ⟨x, H1, I1, r, q⟩ => ?_
  rcases q with q | ⟨a, u, k1, mu, q⟩
  · exact ⟨x, H1, I1, r, q⟩
  · obtain ⟨od, I2⟩ := I1.lock k1 mu
    exact ⟨x, _, I2, r, q od⟩⟩
theorem ms_fz (i : Nat) (hs : PS X st (tS G W b)) : PS X st (tS G W (msFz i b)) := ⟨fun pins s σ H D I ⟨et, env, h, hE, hH, hP⟩ => by
  unfold msFz at hP
  split at hP
  · rename_i n he
    split at hP
    · rename_i xs hx
      obtain ⟨v, e1, r⟩ := hE.2 i _ he
      obtain ⟨a, ha, rfl⟩ := den_ref.mp r
      obtain ⟨vs, k1, k2⟩ := hH.cell n _ a hx ha
      obtain ⟨od, I1⟩ := I.lock k1 True.intro
      have ex : Ext H (upd H a (.frz od (.lst vs))) := Ext.mut k1 True.intro
      have hf : DenL G et (upd H a (.frz od (.lst vs))) xs vs := k2.mono List.prefix_rfl ex
      have hE1 := (hE.mono (et' := et) List.prefix_rfl ex).set i (den_fl.mpr ⟨a, vs, rfl, ⟨od, upd_same⟩, hf⟩)
      have es : σ.set i (some (.ref a)) = σ := by
        apply List.ext_getElem?
        intro j
        by_cases hj : i = j
        · subst hj
          rw [List.getElem?_set_self (List.getElem?_eq_some_iff.mp e1).1, e1]
        · rw [List.getElem?_set_ne hj]
      rw [es] at hE1
      have hc : CellOk G et (upd H a (.frz od (.lst vs))) a (.frz xs) := ⟨vs, .inl ⟨od, upd_same⟩, hf⟩
      exact hs.run pins s σ _ D I1 ⟨et, _, _, hE1, hH.set hx ha rfl k1 True.intro hc, hP.weak List.prefix_rfl ex⟩
    · exact hs.run pins s σ H D I ⟨et, env, h, hE, hH, hP⟩
  · exact hs.run pins s σ H D I ⟨et, env, h, hE, hH, hP⟩⟩
theorem ms_setF {i : Nat} (hs : PS X st (tS G W (msSet i m))) : PS X st (tS G W (msSet i (mFz m))) := ⟨fun pins s σ H D I ⟨et, env, h, hE, hH, hP⟩ => by
  have main : PstS G et H (msSet i m env h) { D with nx := fun σ' H' => D.nx σ' H' ∨ ∃ a u, H' a = some u ∧ Mut (some u) ∧ ∀ od, D.nx σ' (upd H' a (.frz od u)) } W := by
    have hP : PstS G et H ((fzR h (m env h)).bindS env fun d h1 => .nx (env.set i (some d)) h1) D W := hP
    show PstS G et H ((m env h).bindS env fun d h1 => .nx (env.set i (some d)) h1) _ W
    revert hP
    cases m env h with
    | no => exact fun z => z
    | ex c d h' => exact fun z => z
    | ok d h' =>
      intro hP
      have dull : PstS G et H (.nx (env.set i (some d)) h') D W → PstS G et H (.nx (env.set i (some d)) h') { D with nx := fun σ' H' => D.nx σ' H' ∨ ∃ a u, H' a = some u ∧ Mut (some u) ∧ ∀ od, D.nx σ' (upd H' a (.frz od u)) } W := fun z et1 H1 σ1 p e r E => .inl (z et1 H1 σ1 p e r E)
      have slots : ∀ {n : Nat} {et' : List Addr} {H' : Hp} {σ' : L2.St} {a : Addr} {d' : NR.D} {H2 : Hp}, EnvR G et' H' (env.set i (some (.ref n))) σ' → et <+: et' → et'[n]? = some a → Ext H' H2 → Den G et H2 d' (.ref a) → EnvR G et H2 (env.set i (some d')) σ' := fun {n et' H' σ' a d' H2} E p ha ex r => by
        refine ⟨by have := E.1; simpa using this, fun j d'' q => ?_⟩
        by_cases hj : i = j
        · subst hj
          by_cases hl : i < env.length
          · rw [List.getElem?_set_self hl] at q
            cases q
            obtain ⟨v, e1, r1⟩ := E.2 i (.ref n) (by rw [List.getElem?_set_self hl])
            obtain ⟨b, hb, rfl⟩ := den_ref.mp r1
            rw [ha] at hb
            cases hb
            exact ⟨_, e1, r⟩
          · rw [List.getElem?_eq_none (by simp; omega)] at q
            cases q
        · rw [List.getElem?_set_ne hj] at q
          obtain ⟨v0, _, r0⟩ := hE.2 j d'' q
          obtain ⟨v, e1, r1⟩ := E.2 j d'' (by rw [List.getElem?_set_ne hj]; exact q)
          exact ⟨v, e1, (r1.back p r0.lo).mono List.prefix_rfl ex⟩
      unfold fzR at hP
      split at hP
      · rename_i n h2 heq
        cases heq
        split at hP
        · rename_i xs hx
          split at hP
          · rename_i c
            intro et' H' σ' p e hr E
            obtain ⟨a, ha⟩ := hr.addr hx
            obtain ⟨vs, k1, k2⟩ := hr.cell n _ a hx ha
            refine .inr ⟨a, .lst vs, k1, True.intro, fun od => ?_⟩
            have hr2 : HRel G et (h'.take h.length) (upd H' a (.frz od (.lst vs))) := HRel.lockNew (R0 := hH) hr p hx ha rfl k1 True.intro c.1 c.2.2
            have ex : Ext H' (upd H' a (.frz od (.lst vs))) := Ext.mut k1 True.intro
            have lo := c.2.1
            rw [← hH.len] at lo
            exact hP et _ σ' List.prefix_rfl (e.trans ex) hr2 (slots E p ha ex (den_fl.mpr ⟨a, vs, rfl, ⟨od, upd_same⟩, (k2.back p lo).mono List.prefix_rfl ex⟩))
          · exact dull hP
        · rename_i xs hx
          split at hP
          · rename_i c
            intro et' H' σ' p e hr E
            obtain ⟨a, ha⟩ := hr.addr hx
            obtain ⟨ws, k1, k2, k3⟩ := hr.cell n _ a hx ha
            refine .inr ⟨a, .dK ws, k1, True.intro, fun od => ?_⟩
            have hr2 : HRel G et (h'.take h.length) (upd H' a (.frz od (.dK ws))) := HRel.lockNew (R0 := hH) hr p hx ha rfl k1 True.intro c.1 c.2.2
            have ex : Ext H' (upd H' a (.frz od (.dK ws))) := Ext.mut k1 True.intro
            have lo := c.2.1
            rw [← hH.len] at lo
            exact hP et _ σ' List.prefix_rfl (e.trans ex) hr2 (slots E p ha ex (den_fd.mpr ⟨a, ws, rfl, ⟨od, upd_same⟩, by rw [k2, List.map_map]; rfl, (k3.back p lo).mono List.prefix_rfl ex⟩))
          · exact dull hP
        · exact dull hP
      · exact dull hP
  refine thn (hs.run pins s σ H _ I ⟨et, env, h, hE, hH, main⟩) fun f s1 q => ?_
  cases f with
  | next =>
    obtain ⟨σ', H', I2, q⟩ := q
    rcases q with q | ⟨a, u, k1, mu, q⟩
    · exact ⟨σ', H', I2, q⟩
    · obtain ⟨od, I3⟩ := I2.lock k1 mu
      exact ⟨σ', _, I3, q od⟩
  | brk => exact q
  | cont => exact q
  | ret v => exact q⟩
end
end NR

set_option Elab.async false
set_option linter.all false
set_option maxRecDepth 100000
/-! Exceptions: raise, try .. except X (as e), isinstance of what is caught. -/
namespace NR
open PySem PySem.Spec PyProof.Rows L2
/-- classes by their names -/
def clOf (l : List (Str × Addr)) (s : Str) : Addr := (l.lookup s).getD 0
/-- ValueError, or an own class -/
def clV (cl : Str → Addr) (y : Str) : V := if y = "ValueError" then .ty "ValueError" else .ref (cl y)
def clU (cl : Str → Addr) (y : Str) : Value := if y = "ValueError" then .type "ValueError" else .ref (cl y)
abbrev CTab := List ((Str × Str) × Bool)
def CTab.get (t : CTab) (c y : Str) : Option Bool := t.lookup (c, y)
/-- an own class over ValueError, without __init__ -/
structure ExC1 (K : PySem.W.Frag) (mg : Str → Option Value) (x : Str) (C : Addr) : Prop where
  g : mg x = some (.ref C)
  q : PySem.W.excIn K C [.type "ValueError", .type "Exception", .type "BaseException", .type "object"] "ValueError.__new__" = true
  k : PySem.W.keepIn K (.ref C) = true
  b : PySem.W.subIn K (.ref C) (.type "BaseException") = some true
  t : PySem.W.typeIn K (.ref C) = some (.type "type")
  e : ExcC K C
/-- pairs of classes: is the one under the other (as a clause asks, as isinstance asks) -/
def ExH (K : PySem.W.Frag) (cl : Str → Addr) (t : CTab) : Prop := ∀ p ∈ t, PySem.W.exmOne K (.ref (cl p.1.1)) (clU cl p.1.2) = some p.2
def ExI (K : PySem.W.Frag) (cl : Str → Addr) (t : CTab) : Prop := ∀ p ∈ t, PySem.W.kitOne K (.ref (cl p.1.1)) (clU cl p.1.2) = some p.2 ∧ ExcC K (cl p.1.1)
theorem exH_nil {K : PySem.W.Frag} {cl : Str → Addr} : ExH K cl [] := fun _ h => by cases h
theorem exH_cons {K : PySem.W.Frag} {cl : Str → Addr} {t : CTab} {p : (Str × Str) × Bool} (h : PySem.W.exmOne K (.ref (cl p.1.1)) (clU cl p.1.2) = some p.2) (r : ExH K cl t) : ExH K cl (p :: t) := fun q hq => by
  rcases List.mem_cons.mp hq with rfl | hq
  · exact h
  · exact r q hq
theorem exI_nil {K : PySem.W.Frag} {cl : Str → Addr} : ExI K cl [] := fun _ h => by cases h
theorem exI_cons {K : PySem.W.Frag} {cl : Str → Addr} {t : CTab} {p : (Str × Str) × Bool} (h : PySem.W.kitOne K (.ref (cl p.1.1)) (clU cl p.1.2) = some p.2) (e : ExcC K (cl p.1.1)) (r : ExI K cl t) : ExI K cl (p :: t) := fun q hq => by
  rcases List.mem_cons.mp hq with rfl | hq
  · exact ⟨h, e⟩
  · exact r q hq
theorem CTab.mem : ∀ {t : CTab} {c y : Str} {b : Bool}, t.get c y = some b → ((c, y), b) ∈ t
  | [], _, _, _, h => by simp [CTab.get] at h
  | (k, v) :: t, c, y, b, h => by
    unfold CTab.get at h
    rw [List.lookup_cons] at h
    split at h
    · rename_i e
      cases h
      have := eq_of_beq e
      rw [← this]
      exact List.mem_cons_self
    · exact List.mem_cons_of_mem _ (CTab.mem (t := t) h)
theorem ExH.get {K : PySem.W.Frag} {cl : Str → Addr} {t : CTab} (x : ExH K cl t) {c y : Str} {b : Bool} (h : t.get c y = some b) : PySem.W.exmOne K (.ref (cl c)) (clU cl y) = some b := x _ (CTab.mem h)
theorem ExI.get {K : PySem.W.Frag} {cl : Str → Addr} {t : CTab} (x : ExI K cl t) {c y : Str} {b : Bool} (h : t.get c y = some b) : PySem.W.kitOne K (.ref (cl c)) (clU cl y) = some b ∧ ExcC K (cl c) := x _ (CTab.mem h)

theorem kit_ref {K : PySem.W.Frag} {C D : Addr} {b : Bool} (hdct : PySem.W.hasDictIn K C = true) (ht : PySem.W.typeIn K (.ref C) = some (.type "type")) (h : PySem.W.subIn K (.ref D) (.ref C) = some b) (h0 : PySem.W.subIn K (.ref C) (.ref C) = some true) : PySem.W.kitOne K (.ref D) (.ref C) = some b := by
  obtain ⟨cd, hc, _⟩ := PySem.W.any_some hdct
  unfold PySem.W.kitOne
  split
  · rename_i e
    have := eq_of_beq e
    cases this
    rw [h0] at h
    exact h
  · unfold PySem.W.kitCls
    dsimp only
    rw [hc, ht]
    exact h
theorem kit_val {K : PySem.W.Frag} {D : Addr} {b : Bool} (h : PySem.W.subIn K (.ref D) (.type "ValueError") = some b) : PySem.W.kitOne K (.ref D) (.type "ValueError") = some b := by
  unfold PySem.W.kitOne
  split
  · rename_i e
    have := eq_of_beq e
    cases this
  · unfold PySem.W.kitCls
    dsimp only
    rw [if_pos (by decide +kernel)]
    exact h
/-! ### raise -/
def msRaise (x : Str) : MS := fun env h => .ex x none env h
section
variable {X : Cx} {G : Cf} {W : WX}
theorem ms_raise {x m : Str} {j : Nat} {p p2 pos pos2 : Pos} (hc : X.calm = true) (tk : Takes X W) (F : ExC1 X.K X.mg x (G.C x)) (hg : Gl X x := by rfl) (hdb : (x == ("__debug__" : Str)) = false := by decide) :
    PS X (.Raise (some (.Call (.Name x p) [.Constant (.str m) j p2] [] pos)) none pos2) (tS G W (msRaise x)) :=
  PS.imp (ps_raise hc tk (pmk_own PySem.F.excBase_ValueError F.q F.g F.k (raises_own F.b F.t) hg hdb)) fun D σ H ⟨et, env, h, hE, hH, hP⟩ =>
    hP et H σ _ none List.prefix_rfl (Ext.refl H) hH hE ⟨rfl, rfl⟩
end
/-! ### isinstance in a suite -/
def rIsET (K : PySem.W.Frag) (D a : Addr) : List V → Hp → VK → Prop := fun xs H Q => ∃ (tp : Addr) (cs : List V) (us : List Value) (b : Bool), xs = [.ref a, .ref tp] ∧ H tp = some (.tup cs) ∧ Paired ClsV cs us ∧ PySem.W.kitAny K (.ref D) us = some b ∧ Q (.bl b) H
theorem call_isET {X : Cx} {a D : Addr} {oe : Obj} {pn : List (Addr × Obj)} (C : ExcC X.K D) (hz : Zc (.ref D) none oe) (hf : ∃ vs, oe.data = .fields vs) : CallR (X.suite a ((a, oe) :: pn)) (.builtin "isinstance") (rIsET X.K D a) := by
  intro pins s σ H xs us Q I r h
  obtain ⟨tp, cs, ws, b, rfl, hT, k, e, q⟩ := h
  obtain ⟨u1, u2, rfl, r1, r2⟩ := vals2 r
  cases (show u2 = Value.ref tp from r2)
  cases (show u1 = Value.ref a from r1)
  obtain ⟨hget, _⟩ := I.pin (a, oe) (List.mem_append.mpr (.inl List.mem_cons_self))
  obtain ⟨vs, hv⟩ := hf
  have J : PySem.W.InstAt s.heap a oe D none := by
    obtain ⟨oc, od, oda, osl⟩ := oe
    obtain ⟨h1, h2⟩ := hz
    dsimp only at h1 h2 hv
    subst h1 h2 hv
    exact ⟨hget, rfl, rfl, trivial⟩
  obtain ⟨_, its, rv, o, h1, h2, n, h3⟩ := (show ObjOk _ _ H s.heap tp (.tup cs) from I.hok tp _ hT)
  have e3 := ClsV.all k rv
  subst e3
  obtain ⟨oc, od, dt, sl⟩ := o
  simp only at h2 h3
  subst h2 h3
  exact PySem.W.kia_tup (PySem.W.handS_kitx_exc C.hg C.hk C.hs C.hd C.ha C.hn C.ht C.hm) I.kIn J h1 e (fun z => nomatch z) fun tk => ⟨.bl b, H, I.kept (t' := tk) fun _ _ z => z, rfl, q⟩
theorem pe_no {X : Cx} {G : Cf} {W : WX} {e : Expr} {m : ME} (h0 : ∀ env h, m env h = .no) : PE X e (tE G W m) := ⟨fun _ _ _ _ _ _ ⟨et, env, h, _, _, hP⟩ => by
  rw [h0] at hP
  exact hP.elim⟩
def mIsE (t : CTab) (c : Str) (a i : Nat) (y : Str) : ME := fun env h => match env[i]? with
  | some (some (.exc a')) => if a' = a then (match t.get c y with | some b => .ok (.bl b) h | none => .no) else .no
  | _ => .no
def mIsET (t : CTab) (c : Str) (a i : Nat) (ys : List Str) : ME := fun env h => match env[i]? with
  | some (some (.exc a')) => if a' = a then (match allM' (t.get c) ys with | some bs => .ok (.bl (bs.any id)) h | none => .no) else .no
  | _ => .no
where allM' (f : Str → Option Bool) : List Str → Option (List Bool)
  | [] => some []
  | y :: ys => match f y, allM' f ys with
    | some b, some bs => some (b :: bs)
    | _, _ => none
/-- the classes that a tuple names -/
inductive CNs (X : Cx) (cl : Str → Addr) : List Str → List Expr → Prop
  | nil : CNs X cl [] []
  | own {y : Str} {ys : List Str} {es : List Expr} {p : Pos} (hg : Gl X y) (hm : X.mg y = some (.ref (cl y))) (hn : y ≠ "ValueError") (hd : (y == ("__debug__" : Str)) = false) (h : CNs X cl ys es) : CNs X cl (y :: ys) (.Name y p :: es)
  | val {ys : List Str} {es : List Expr} {p : Pos} (hg : Gl X "ValueError") (hm : X.mg "ValueError" = none) (h : CNs X cl ys es) : CNs X cl ("ValueError" :: ys) (.Name "ValueError" p :: es)
section
variable {X : Cx} {cl : Str → Addr}
theorem clV_own {y : Str} (hn : y ≠ "ValueError") : clV cl y = .ref (cl y) := by unfold clV; rw [if_neg hn]
theorem clU_own {y : Str} (hn : y ≠ "ValueError") : clU cl y = .ref (cl y) := by unfold clU; rw [if_neg hn]
theorem clV_val : clV cl "ValueError" = .ty "ValueError" := if_pos rfl
theorem clU_val : clU cl "ValueError" = .type "ValueError" := if_pos rfl
theorem clV_U (y : Str) : ClsV (clV cl y) (clU cl y) := by
  unfold clV clU
  split
  · exact .ty _
  · exact .own _
theorem CNs.pa : ∀ {ys : List Str} {es : List Expr}, CNs X cl ys es → PA X es (fun _ H Q => Q (ys.map (clV cl)) H)
  | [], _, .nil => pa_nil
  | _ :: _, _, .own (y := y) hg hm hn hd h => ⟨fun pos pins s σ H Q I q => (pa_cons (pe_glob (v := .ref (cl y)) hg hm rfl hd) h.pa rfl).run pos pins s σ H Q I (by rw [List.map_cons, clV_own hn] at q; exact q)⟩
  | _ :: _, _, .val hg hm h => ⟨fun pos pins s σ H Q I q => (pa_cons (pe_bltn (v := .ty "ValueError") hg hm (by decide +kernel : bootBuiltins "ValueError" = some (.type "ValueError")) rfl) h.pa rfl).run pos pins s σ H Q I (by rw [List.map_cons, clV_val] at q; exact q)⟩
theorem CNs.len : ∀ {ys : List Str} {es : List Expr}, CNs X cl ys es → es.length = ys.length
  | [], _, .nil => rfl
  | _ :: _, _, .own _ _ _ _ h => by simp [h.len]
  | _ :: _, _, .val _ _ h => by simp [h.len]
theorem paired_cls : ∀ ys : List Str, Paired ClsV (ys.map (clV cl)) (ys.map (clU cl))
  | [] => .nil
  | y :: ys => .cons (clV_U y) (paired_cls ys)
theorem kitAny_of {K : PySem.W.Frag} {t : CTab} {c : Str} (F : ExI K cl t) : ∀ {ys : List Str} {bs : List Bool}, mIsET.allM' (t.get c) ys = some bs → PySem.W.kitAny K (.ref (cl c)) (ys.map (clU cl)) = some (bs.any id)
  | [], bs, e => by
    simp only [mIsET.allM', Option.some.injEq] at e
    subst e
    rfl
  | y :: ys, bs, e => by
    unfold mIsET.allM' at e
    split at e
    · rename_i b bs' e1 e2
      cases e
      rw [List.map_cons]
      unfold PySem.W.kitAny
      rw [(F.get e1).1]
      cases b with
      | true => simp
      | false =>
        dsimp only
        rw [kitAny_of F e2]
        simp
    · cases e
end
section
variable {X : Cx} {G : Cf} {W : WX} {a : Addr} {oe : Obj} {pn : List (Addr × Obj)} {p p1 p2 pos : Pos}
theorem me_isE {t : CTab} {c y n : Str} (i : Nat) (hz : Zc (.ref (G.C c)) none oe) (hf : ∃ vs, oe.data = .fields vs) (F : ExI X.K G.C t) (hm : X.mg "isinstance" = none) (hy : CNs (X.suite a ((a, oe) :: pn)) G.C [y] [.Name y p2])
    (hN : X.N[i]? = some n := by rfl) (hv : Vis X.env.scope n := by first | exact Or.inl rfl | exact Or.inr (Or.inl rfl) | exact Or.inr (Or.inr rfl)) (hg : Gl X "isinstance" := by rfl) (hd : (n == ("__debug__" : Str)) = false := by decide) (hcd : (n == ("__classdict__" : Str)) = false := by decide) (hb : bootBuiltins "isinstance" = some (.builtin "isinstance") := by decide +kernel)
    (hs1 : starEach [.Name n p1, .Name y p2] X.env = (false, eval (.Name n p1) X.env) :: starEach [.Name y p2] X.env := by rfl) (hpl : (backTo pos (starEach [.Name y p2] X.env)).any (·.1) = false := by rfl) :
    PE (X.suite a ((a, oe) :: pn)) (.Call (.Name "isinstance" p) [.Name n p1, .Name y p2] [] pos) (tE G W (mIsE t c a i y)) := by
  cases hg0 : t.get c y with
  | none =>
    refine pe_no fun env h => ?_
    unfold mIsE
    split
    · split
      · rw [hg0]
      · rfl
    · rfl
  | some b0 =>
  have C := (F.get hg0).2
  exact PE.imp (pe_callB (X := X.suite a ((a, oe) :: pn)) (call_isE C hz hf) hg hm hb (pa_cons (pe_var (X := X.suite a ((a, oe) :: pn)) hN hv hd hcd) hy.pa hs1) (by decide) (by decide) hs1 hpl) fun σ H Q ⟨et, env, h, hE, hH, hP⟩ => by
    unfold mIsE at hP
    split at hP
    · rename_i a' ha
      obtain ⟨v, e1, r⟩ := hE.2 i _ ha
      have ev : v = .ref a' := by simpa [Den] using r
      subst ev
      split at hP
      · rename_i ea
        subst ea
        split at hP
        · rename_i b hb
          exact ⟨_, e1, clV G.C y, clU G.C y, b, rfl, fun u ru => ClsV.eq (clV_U y) ru, (F.get hb).1, hP.here hH _ (by simp)⟩
        · exact hP.elim
      · exact hP.elim
    · exact hP.elim
theorem me_isET {t : CTab} {c n : Str} {ys : List Str} {es : List Expr} {k : Nat} (i : Nat) (hz : Zc (.ref (G.C c)) none oe) (hf : ∃ vs, oe.data = .fields vs) (F : ExI X.K G.C t) (hm : X.mg "isinstance" = none) (hy : CNs (X.suite a ((a, oe) :: pn)) G.C ys es)
    (hN : X.N[i]? = some n := by rfl) (hv : Vis X.env.scope n := by first | exact Or.inl rfl | exact Or.inr (Or.inl rfl) | exact Or.inr (Or.inr rfl)) (hl : ys.length ≤ 1000 := by decide) (hl0 : ys.length ≠ 0 := by decide) (hg : Gl X "isinstance" := by rfl) (hd : (n == ("__debug__" : Str)) = false := by decide) (hcd : (n == ("__classdict__" : Str)) = false := by decide) (hb : bootBuiltins "isinstance" = some (.builtin "isinstance") := by decide +kernel)
    (hs1 : starEach [.Name n p1, .Tuple es k p2] X.env = (false, eval (.Name n p1) X.env) :: starEach [.Tuple es k p2] X.env := by rfl) (hs2 : starEach [.Tuple es k p2] X.env = (false, eval (.Tuple es k p2) X.env) :: starEach [] X.env := by rfl) (hpl : (backTo pos (starEach [.Tuple es k p2] X.env)).any (·.1) = false := by rfl) :
    PE (X.suite a ((a, oe) :: pn)) (.Call (.Name "isinstance" p) [.Name n p1, .Tuple es k p2] [] pos) (tE G W (mIsET t c a i ys)) := by
  cases hg0 : mIsET.allM' (t.get c) ys with
  | none =>
    refine pe_no fun env h => ?_
    unfold mIsET
    split
    · split
      · rw [hg0]
      · rfl
    · rfl
  | some bs0 =>
  rcases Nat.eq_zero_or_pos ys.length with h0 | h0
  · exact absurd h0 hl0
  have C : ExcC X.K (G.C c) := by
    cases ys with
    | nil => exact absurd rfl hl0
    | cons y ys =>
      unfold mIsET.allM' at hg0
      split at hg0
      · rename_i b bs e1 e2
        exact (F.get e1).2
      · cases hg0
  exact PE.imp (pe_callB (X := X.suite a ((a, oe) :: pn)) (call_isET C hz hf) hg hm hb (pa_cons (pe_var (X := X.suite a ((a, oe) :: pn)) hN hv hd hcd) (pa_cons (pe_tup hy.pa) pa_nil hs2) hs1) (by decide) (by decide) hs1 hpl) fun σ H Q ⟨et, env, h, hE, hH, hP⟩ => by
    unfold mIsET at hP
    split at hP
    · rename_i a' ha
      obtain ⟨v, e1, r⟩ := hE.2 i _ ha
      have ev : v = .ref a' := by simpa [Den] using r
      subst ev
      split at hP
      · rename_i ea
        subst ea
        split at hP
        · rename_i bs hb
          refine ⟨_, e1, sz (by rw [List.length_map]; omega), fun tp htp => ?_⟩
          exact ⟨tp, _, _, _, rfl, upd_same, paired_cls ys, kitAny_of F hb, hP et (upd H tp (.tup _)) List.prefix_rfl (Ext.new htp) (hH.new htp) _ (by simp)⟩
        · exact hP.elim
      · exact hP.elim
    · exact hP.elim
end
/-! ### try -/
def RS.unset (i : Nat) : RS → RS
  | .nx e h => .nx (e.set i none) h
  | .bk e h => .bk (e.set i none) h
  | .ct e h => .ct (e.set i none) h
  | .rt d h => .rt d h
  | .ex _ _ _ _ => .no
  | .no => .no
def RS.calm : RS → RS
  | .ex _ _ _ _ => .no
  | r => r
open Classical in
/-- the same whatever the number is -/
noncomputable def anyA (F : Nat → RS) : RS := if e : ∃ r, ∀ a, F a = r then choose e else .no
theorem anyA_eq {F : Nat → RS} {r : RS} (e : ∀ a, F a = r) : anyA F = r := by
  have ex : ∃ r, ∀ a, F a = r := ⟨r, e⟩
  unfold anyA
  rw [dif_pos ex]
  exact ((Classical.choose_spec ex 0).symm.trans (e 0))
theorem anyA_or (F : Nat → RS) : (∀ a, F a = anyA F) ∨ anyA F = .no := by
  by_cases e : ∃ r, ∀ a, F a = r
  · unfold anyA
    rw [dif_pos e]
    exact .inl (Classical.choose_spec e)
  · unfold anyA
    rw [dif_neg e]
    exact .inr rfl
/-- try: body except y as (slot i): suite -/
noncomputable def msTryAs (t : CTab) (y : Str) (i : Nat) (body : MS) (suite : Str → Nat → MS) : MS := fun env h => match body env h with
  | .ex c none e h1 => match t.get c y with
    | some true => anyA fun a => RS.unset i (suite c a (e.set i (some (.exc a))) h1)
    | some false => .ex c none e h1
    | none => .no
  | .ex _ _ _ _ => .no
  | r => r
def msTry (t : CTab) (y : Str) (body : MS) (suite : Str → MS) : MS := fun env h => match body env h with
  | .ex c none e h1 => match t.get c y with
    | some true => RS.calm (suite c e h1)
    | some false => .ex c none e h1
    | none => .no
  | .ex _ _ _ _ => .no
  | r => r
theorem EnvR.unset {G : Cf} {et : List Addr} {H : Hp} {env : EV} {σ : L2.St} (x : EnvR G et H env σ) (i : Nat) (v : Option V) : EnvR G et H (env.set i none) (σ.set i v) := by
  refine ⟨by simp [x.1], fun j d q => ?_⟩
  by_cases hj : i = j
  · subst hj
    by_cases hl : i < env.length
    · rw [List.getElem?_set_self hl] at q
      cases q
    · rw [List.getElem?_eq_none (by simp; omega)] at q
      cases q
  · rw [List.getElem?_set_ne hj] at q
    obtain ⟨v, e1, r⟩ := x.2 j d q
    exact ⟨v, by rw [List.getElem?_set_ne hj]; exact e1, r⟩
section
variable {X : Cx} {G : Cf} {W : WX} {body suite : List Stmt} {b₀ : Stmt} {np pos pos' : Pos}
theorem ms_tryAs {t : CTab} {y n : Str} (i : Nat) {mb : MS} {ms : Str → Nat → MS} (hs : X.stack = X.env :: X.outer) (hf : X.env.frame = some X.env.locals) (hN : X.N.Nodup) (F : ExH X.K G.C t) (hm : X.mg y = some (.ref (G.C y))) (tk : Takes X W)
    (hb : ∀ (W : WX) (pn : List (Addr × Obj)) (xe : Value → Shared → Prop), Takes (X.tr pn xe) W → PassesOwn (model X.prog X.w) X.A X.env xe → PSs (X.tr pn xe) body (tS G W mb))
    (hsu : ∀ (c : Str) (a : Addr) (oe : Obj) (pn : List (Addr × Obj)), Zc (.ref (G.C c)) none oe → (∃ vs, oe.data = .fields vs) → PSs (X.suite a ((a, oe) :: pn)) (b₀ :: suite) (tS G W0 (ms c a)))
    (hi : X.N[i]? = some n := by rfl) (hln : X.env.kindOf n = some .local := by rfl) (hg : Gl X y := by rfl) (hn : y ≠ "ValueError" := by decide) (hd : (y == ("__debug__" : Str)) = false := by decide) :
    PS X (.Try body [.ExceptHandler (some (.Name y np)) (some n) (b₀ :: suite) pos'] [] [] pos) (tS G W (msTryAs t y i mb ms)) := by
  refine PS.imp (ps_try_as (i := i) (tb := fun W => tS G W mb) (ts := fun a cls d D σ H => ∃ c, cls = .ref (G.C c) ∧ d = none ∧ tS G W0 (ms c a) D σ H) (Wout := W) hs hf hN hi hln ⟨hg, hd, .inl hm⟩ tk hb
    (fun a oe cls d pn hz hf => ⟨fun pins s σ H D I ⟨c, h1, h2, r⟩ => by subst h1 h2; exact (hsu c a oe pn hz hf).run pins s σ H D I r⟩)) fun D σ H ⟨et, env, h, hE, hH, hP⟩ => ⟨et, env, h, hE, hH, ?_⟩
  unfold msTryAs at hP
  revert hP
  cases mb env h with
  | no => exact fun z => z
  | nx e h1 => exact fun z => z
  | rt e h1 => exact fun z => z
  | bk e h1 => exact fun z => z
  | ct e h1 => exact fun z => z
  | ex c d e h1 =>
    cases d with
    | some fs => exact fun z => z.elim
    | none =>
      intro hP et' H' σ' cls dd p ex hr hE' hx
      obtain ⟨rfl, hdd⟩ := hx
      have hdd : dd = none := hdd
      subst hdd
      dsimp only at hP
      cases ht : t.get c y with
      | none => rw [ht] at hP; exact hP.elim
      | some b =>
        rw [ht] at hP
        refine ⟨b, by have := F.get ht; rw [clU_own hn] at this; exact this, fun hb a _ => ?_, fun hb => ?_⟩
        · subst hb
          dsimp only at hP
          refine ⟨c, rfl, rfl, et', e.set i (some (.exc a)), h1, hE'.set i (by simp [Den]), hr, ?_⟩
          have q := PstS.weak p ex hP
          rcases anyA_or (fun a => RS.unset i (ms c a (e.set i (some (.exc a))) h1)) with z | z
          · rw [← z a] at q
            revert q
            cases ms c a (e.set i (some (.exc a))) h1 with
            | no => exact fun z => z
            | rt d h2 => exact fun z => z
            | ex _ _ _ _ => exact fun z => z.elim
            | nx e2 h2 => exact fun q et1 H1 σ1 p1 e1 r1 E1 => q et1 H1 _ p1 e1 r1 (E1.unset i none)
            | bk e2 h2 => exact fun q et1 H1 σ1 p1 e1 r1 E1 => q et1 H1 _ p1 e1 r1 (E1.unset i none)
            | ct e2 h2 => exact fun q et1 H1 σ1 p1 e1 r1 E1 => q et1 H1 _ p1 e1 r1 (E1.unset i none)
          · rw [z] at q
            exact q.elim
        · subst hb
          exact hP et' H' σ' _ none p ex hr hE' ⟨rfl, rfl⟩
theorem ms_try {t : CTab} {y : Str} {mb : MS} {ms : Str → MS} (hs : X.stack = X.env :: X.outer) (hf : X.env.frame = some X.env.locals) (F : ExH X.K G.C t) (hm : X.mg y = some (.ref (G.C y))) (tk : Takes X W)
    (hb : ∀ (W : WX) (pn : List (Addr × Obj)) (xe : Value → Shared → Prop), Takes (X.tr pn xe) W → PassesOwn (model X.prog X.w) X.A X.env xe → PSs (X.tr pn xe) body (tS G W mb))
    (hsu : ∀ (c : Str) (a : Addr) (oe : Obj) (pn : List (Addr × Obj)), Zc (.ref (G.C c)) none oe → (∃ vs, oe.data = .fields vs) → PSs (X.suite a ((a, oe) :: pn)) (b₀ :: suite) (tS G W0 (ms c)))
    (hg : Gl X y := by rfl) (hn : y ≠ "ValueError" := by decide) (hd : (y == ("__debug__" : Str)) = false := by decide) :
    PS X (.Try body [.ExceptHandler (some (.Name y np)) none (b₀ :: suite) pos'] [] [] pos) (tS G W (msTry t y mb ms)) := by
  refine PS.imp (ps_try_only (tb := fun W => tS G W mb) (ts := fun a cls d D σ H => ∃ c, cls = .ref (G.C c) ∧ d = none ∧ tS G W0 (ms c) D σ H) (Wout := W) hs hf ⟨hg, hd, .inl hm⟩ tk hb
    (fun a oe cls d pn hz hf => ⟨fun pins s σ H D I ⟨c, h1, h2, r⟩ => by subst h1 h2; exact (hsu c a oe pn hz hf).run pins s σ H D I r⟩)) fun D σ H ⟨et, env, h, hE, hH, hP⟩ => ⟨et, env, h, hE, hH, ?_⟩
  unfold msTry at hP
  revert hP
  cases mb env h with
  | no => exact fun z => z
  | nx e h1 => exact fun z => z
  | rt e h1 => exact fun z => z
  | bk e h1 => exact fun z => z
  | ct e h1 => exact fun z => z
  | ex c d e h1 =>
    cases d with
    | some fs => exact fun z => z.elim
    | none =>
      intro hP et' H' σ' cls dd p ex hr hE' hx
      obtain ⟨rfl, hdd⟩ := hx
      have hdd : dd = none := hdd
      subst hdd
      dsimp only at hP
      cases ht : t.get c y with
      | none => rw [ht] at hP; exact hP.elim
      | some b =>
        rw [ht] at hP
        refine ⟨b, by have := F.get ht; rw [clU_own hn] at this; exact this, fun hb a _ => ?_, fun hb => ?_⟩
        · subst hb
          dsimp only at hP
          refine ⟨c, rfl, rfl, et', e, h1, hE', hr, ?_⟩
          have q := PstS.weak p ex hP
          revert q
          cases ms c e h1 with
          | ex _ _ _ _ => exact fun z => z.elim
          | _ => exact fun z => z
        · subst hb
          exact hP et' H' σ' _ none p ex hr hE' ⟨rfl, rfl⟩
end
end NR

set_option Elab.async false
set_option linter.all false
set_option maxRecDepth 100000
/-! sorted, max, min of a list; pop, index; methods without arguments; one of two readings. -/
namespace NR
open PySem PySem.Spec PyProof.Rows L2
def relabelS (scope sc : Scope) : Scope :=
  { scope with names := scope.names.map fun (n, k) => if (k == .free && sc.kind == .function && sc.names.lookup n == some .cell) then (n, .cell) else (n, k) }
/-- a comprehension within another one -/
theorem blkOk_in {N : List Str} {outer sc scope : Scope} {env : PySem.Env} {own : List (Str × Nat)} (hs : env.scope = sc) (h : blkC N (relabelS outer sc) scope own = true) : BlkOk N (relabel outer env) scope own := by
  have e : relabel outer env = relabelS outer sc := by subst hs; rfl
  rw [e]
  exact blkOk_by h
/-- one of two readings of an expression -/
def mOrE (m1 m2 : ME) : ME := fun env h => match m1 env h with
  | .no => m2 env h
  | r => r
section
variable {X : Cx} {G : Cf} {W : WX} {e o : Expr} {m1 m2 mo : ME} {name : Str} {apos cpos : Pos} {T id : String} {r : V → List V → Hp → VK → Prop} {f : D → List D → IH → R D}
theorem me_orE (h1 : PE X e (tE G W m1)) (h2 : PE X e (tE G W m2)) : PE X e (tE G W (mOrE m1 m2)) := ⟨fun pins s σ H Q I ⟨et, env, h, hE, hH, hP⟩ => by
  unfold mOrE at hP
  cases e1 : m1 env h with
  | no =>
    rw [e1] at hP
    exact h2.run pins s σ H Q I ⟨et, env, h, hE, hH, hP⟩
  | ok d h' => rw [e1] at hP; exact h1.run pins s σ H Q I ⟨et, env, h, hE, hH, by rw [e1]; exact hP⟩
  | ex c d h' => rw [e1] at hP; exact h1.run pins s σ H Q I ⟨et, env, h, hE, hH, by rw [e1]; exact hP⟩⟩
/-- a method without arguments -/
def mMeth0 (T : String) (f : D → List D → IH → R D) (mo : ME) : ME := fun env h => (mo env h).bind fun x h1 => if tyD T h1 x = true then f x [] h1 else .no
theorem me_meth0 (hK : X.K = G.K) (pa : PlainAttrs T) (slot : Slot T name id) (hty : typeOf (.builtin id) = pure (.type "method_descriptor")) (hm : MtR X id r) (hs : MethS G r f) (ho : PE X o (tE G W mo))
    (hbase : attributeBase o name X.env (eval o X.env) = eval o X.env := by rfl) (hline : (apos.endLine == cpos.line) = true := by rfl) :
    PE X (.Call (.Attribute o name apos) [] [] cpos) (tE G W (mMeth0 T f mo)) := PE.imp (pe_bm0 pa slot hty hm ho hbase hline) fun σ H Q ⟨et, env, h, hE, hH, hP⟩ => by
  refine ⟨et, env, h, hE, hH, (Pst.of_bind hP).imp fun et1 H1 h1 x p e hr q v hv => ?_⟩
  split at q
  · rename_i ht
    rw [hK]
    exact ⟨tyD_ok hr ht hv, hs et1 H1 h1 x v [] [] _ Q hv (by simp) hr q⟩
  · exact q.elim
end
def isrt (ns : List Int) : List Int := ns.mergeSort (fun a b => decide (a ≤ b))
theorem isrt_perm (ns : List Int) : (isrt ns).Perm ns := List.mergeSort_perm _ _
theorem isrt_sorted (ns : List Int) : (isrt ns).Pairwise (· ≤ ·) := by
  have := List.pairwise_mergeSort (le := fun a b : Int => decide (a ≤ b)) (fun a b c h1 h2 => by simp at *; omega) (fun a b => by simp; omega) ns
  exact this.imp (by simp)
theorem isrt_eq {ns ms : List Int} (p : ms.Perm ns) (s : ms.Pairwise (· ≤ ·)) : ms = isrt ns :=
  List.Perm.eq_of_pairwise (fun _ _ _ _ a b => Int.le_antisymm a b) s (isrt_sorted ns) (p.trans (isrt_perm ns).symm)
def bSorted : List D → IH → R D
  | [x], h => match (lstOf h x).bind (allM D.int?) with
    | some ns => .ok (.ref h.length) (h ++ [.lst ((isrt ns).map D.int)])
    | none => .no
  | _, _ => .no
def imax : List Int → Int
  | [] => 0
  | x :: xs => xs.foldl (fun a b => if b > a then b else a) x
def imin : List Int → Int
  | [] => 0
  | x :: xs => xs.foldl (fun a b => if b < a then b else a) x
theorem imax_go : ∀ (xs : List Int) (x : Int), xs.foldl (fun a b => if b > a then b else a) x ∈ x :: xs ∧ ∀ y ∈ x :: xs, y ≤ xs.foldl (fun a b => if b > a then b else a) x
  | [], x => by simp
  | z :: xs, x => by
    obtain ⟨h1, h2⟩ := imax_go xs (if z > x then z else x)
    rw [List.foldl_cons]
    generalize xs.foldl (fun a b => if b > a then b else a) (if z > x then z else x) = F at *
    refine ⟨?_, fun y hy => ?_⟩
    · rcases List.mem_cons.mp h1 with h | h
      · rw [h]; split <;> simp
      · exact List.mem_cons_of_mem _ (List.mem_cons_of_mem _ h)
    · have h3 := h2 _ List.mem_cons_self
      rcases List.mem_cons.mp hy with rfl | hy
      · split at h3 <;> omega
      · rcases List.mem_cons.mp hy with rfl | hy
        · split at h3 <;> omega
        · exact h2 y (List.mem_cons_of_mem _ hy)
theorem imin_go : ∀ (xs : List Int) (x : Int), xs.foldl (fun a b => if b < a then b else a) x ∈ x :: xs ∧ ∀ y ∈ x :: xs, xs.foldl (fun a b => if b < a then b else a) x ≤ y
  | [], x => by simp
  | z :: xs, x => by
    obtain ⟨h1, h2⟩ := imin_go xs (if z < x then z else x)
    rw [List.foldl_cons]
    generalize xs.foldl (fun a b => if b < a then b else a) (if z < x then z else x) = F at *
    refine ⟨?_, fun y hy => ?_⟩
    · rcases List.mem_cons.mp h1 with h | h
      · rw [h]; split <;> simp
      · exact List.mem_cons_of_mem _ (List.mem_cons_of_mem _ h)
    · have h3 := h2 _ List.mem_cons_self
      rcases List.mem_cons.mp hy with rfl | hy
      · split at h3 <;> omega
      · rcases List.mem_cons.mp hy with rfl | hy
        · split at h3 <;> omega
        · exact h2 y (List.mem_cons_of_mem _ hy)
theorem imax_mem {ns : List Int} (h : 0 < ns.length) : imax ns ∈ ns := by
  cases ns with
  | nil => simp at h
  | cons x xs => exact (imax_go xs x).1
theorem imax_le {ns : List Int} {y : Int} (h : y ∈ ns) : y ≤ imax ns := by
  cases ns with
  | nil => cases h
  | cons x xs => exact (imax_go xs x).2 y h
theorem imin_mem {ns : List Int} (h : 0 < ns.length) : imin ns ∈ ns := by
  cases ns with
  | nil => simp at h
  | cons x xs => exact (imin_go xs x).1
theorem imin_le {ns : List Int} {y : Int} (h : y ∈ ns) : imin ns ≤ y := by
  cases ns with
  | nil => cases h
  | cons x xs => exact (imin_go xs x).2 y h
def bMax1 : List D → IH → R D
  | [x], h => match (lstOf h x).bind (allM D.int?) with
    | some ns => if 0 < ns.length then .ok (.int (imax ns)) h else .no
    | none => .no
  | _, _ => .no
def bMin1 : List D → IH → R D
  | [x], h => match (lstOf h x).bind (allM D.int?) with
    | some ns => if 0 < ns.length then .ok (.int (imin ns)) h else .no
    | none => .no
  | _, _ => .no
def fPop0 : D → List D → IH → R D
  | .ref n, [], h => match h[n]? with
    | some (.lst xs) => match xs[xs.length - 1]? with
      | some y => .ok y (h.set n (.lst xs.dropLast))
      | none => .no
    | _ => .no
  | _, _, _ => .no
def fPopAt : D → List D → IH → R D
  | .ref n, [.int i], h => match h[n]? with
    | some (.lst xs) => match ixN xs.length i with
      | some k => match xs[k]? with
        | some y => if -(2 ^ 63) ≤ i ∧ i < 2 ^ 63 then .ok y (h.set n (.lst (xs.eraseIdx k))) else .no
        | none => .no
      | none => .no
    | _ => .no
  | _, _, _ => .no
def fClear : D → List D → IH → R D
  | .ref n, [], h => match h[n]? with
    | some (.lst xs) => .ok .non (h.set n (.lst []))
    | _ => .no
  | _, _, _ => .no
/-- the first place in a list of ints, of texts -/
def fIndexL : D → List D → IH → R D
  | x, [.int y], h => match (lstOf h x).bind (allM D.int?) with
    | some ns => if y ∈ ns then .ok (.int (ns.idxOf y : Nat)) h else .no
    | none => .no
  | x, [.str y], h => match (lstOf h x).bind (allM D.str?) with
    | some ns => if y ∈ ns then .ok (.int (ns.idxOf y : Nat)) h else .no
    | none => .no
  | _, _, _ => .no
section
variable {G : Cf}
theorem ints_den {et : List Addr} {H : Hp} {h : IH} {x : D} {v : V} {ns : List Int} (R : HRel G et h H) (e : (lstOf h x).bind (allM D.int?) = some ns) (r : Den G et H x v) : ∃ a, v = .ref a ∧ SqL G.K H a (ns.map V.int) := by
  simp only [Option.bind_eq_some_iff] at e
  obtain ⟨xs, e1, e2⟩ := e
  obtain ⟨a, vs, rfl, h1, h2⟩ := lst_ok R e1 r
  rw [allM_ints e2] at h2
  rw [h2.ints] at h1
  exact ⟨a, rfl, h1⟩
theorem strs_den {et : List Addr} {H : Hp} {h : IH} {x : D} {v : V} {ns : List (List Nat)} (R : HRel G et h H) (e : (lstOf h x).bind (allM D.str?) = some ns) (r : Den G et H x v) : ∃ a, v = .ref a ∧ SqL G.K H a ((ns.map strV).map V.str) := by
  simp only [Option.bind_eq_some_iff] at e
  obtain ⟨xs, e1, e2⟩ := e
  obtain ⟨a, vs, rfl, h1, h2⟩ := lst_ok R e1 r
  rw [allM_strs e2] at h2
  rw [h2.strs] at h1
  exact ⟨a, rfl, h1⟩
theorem bSorted_ok : CallS G (rSortedI G.K) bSorted := by
  intro et H h xs vs W Q rv R p
  unfold bSorted at p
  split at p
  · split at p
    · rename_i x ns e
      obtain ⟨v, rfl, r⟩ := list1 rv
      obtain ⟨a, rfl, hs⟩ := ints_den R e r
      refine ⟨a, ns, rfl, hs, fun ns' q pm so hq => ?_⟩
      rw [isrt_eq pm so]
      exact p.newL R DenL.ofInts q hq
    · exact p.elim
  · exact p.elim
theorem bMax1_ok : CallS G (rMax G.K) bMax1 := by
  intro et H h xs vs W Q rv R p
  unfold bMax1 at p
  split at p
  · split at p
    · rename_i x ns e
      split at p
      · rename_i c
        obtain ⟨v, rfl, r⟩ := list1 rv
        obtain ⟨a, rfl, hs⟩ := ints_den R e r
        refine ⟨a, ns, rfl, hs, c, fun m hm hle => ?_⟩
        have : m = imax ns := Int.le_antisymm (imax_le hm) (hle _ (imax_mem c))
        subst this
        exact p.here R _ (by simp)
      · exact p.elim
    · exact p.elim
  · exact p.elim
theorem bMin1_ok : CallS G (rMin G.K) bMin1 := by
  intro et H h xs vs W Q rv R p
  unfold bMin1 at p
  split at p
  · split at p
    · rename_i x ns e
      split at p
      · rename_i c
        obtain ⟨v, rfl, r⟩ := list1 rv
        obtain ⟨a, rfl, hs⟩ := ints_den R e r
        refine ⟨a, ns, rfl, hs, c, fun m hm hle => ?_⟩
        have : m = imin ns := Int.le_antisymm (hle _ (imin_mem c)) (imin_le hm)
        subst this
        exact p.here R _ (by simp)
      · exact p.elim
    · exact p.elim
  · exact p.elim
theorem DenL.dropLast {et : List Addr} {H : Hp} {ds : List D} {vs : List V} (h : DenL G et H ds vs) : DenL G et H ds.dropLast vs.dropLast := by
  rw [List.dropLast_eq_take, List.dropLast_eq_take, h.len]
  exact h.take _
theorem DenL.eraseIdx {et : List Addr} {H : Hp} {ds : List D} {vs : List V} (h : DenL G et H ds vs) (k : Nat) : DenL G et H (ds.eraseIdx k) (vs.eraseIdx k) := by
  rw [List.eraseIdx_eq_take_drop_succ, List.eraseIdx_eq_take_drop_succ]
  exact (h.take _).app (h.drop _)
theorem fPop0_ok : MethS G rPop fPop0 := by
  intro et H h x v xs vs W Q rx rv R p
  unfold fPop0 at p
  split at p
  · split at p
    · rename_i n _ ys hx
      split at p
      · rename_i y hy
        obtain ⟨a, us, h2, rfl, h3, h4⟩ := den_list R hx rx
        obtain ⟨w, e1, r1⟩ := h4.get hy
        refine ⟨a, us, w, rfl, by simpa using rv, h3, by rw [h4.len]; exact e1, ?_⟩
        have ex : Ext H (upd H a (.lst us.dropLast)) := Ext.mut h3 True.intro
        exact p et _ List.prefix_rfl ex (R.set hx h2 rfl h3 True.intro ⟨_, upd_same, (h4.dropLast).mono List.prefix_rfl ex⟩) _ (r1.mono List.prefix_rfl ex)
      · exact p.elim
    · exact p.elim
  · exact p.elim
theorem fPopAt_ok : MethS G rPopAt fPopAt := by
  intro et H h x v xs vs W Q rx rv R p
  unfold fPopAt at p
  split at p
  · split at p
    · rename_i n i _ ys hx
      split at p
      · rename_i k hk
        split at p
        · rename_i y hy
          split at p
          · rename_i c
            obtain ⟨w, rfl, h1⟩ := list1 rv
            obtain ⟨a, us, h2, rfl, h3, h4⟩ := den_list R hx rx
            obtain ⟨w2, e1, r1⟩ := h4.get hy
            refine ⟨a, us, i, k, w2, rfl, by rw [den_int.mp h1], h3, c.1, c.2, by rw [h4.len]; exact (ixN_seq hk).1, e1, ?_⟩
            have ex : Ext H (upd H a (.lst (us.eraseIdx k))) := Ext.mut h3 True.intro
            exact p et _ List.prefix_rfl ex (R.set hx h2 rfl h3 True.intro ⟨_, upd_same, (h4.eraseIdx k).mono List.prefix_rfl ex⟩) _ (r1.mono List.prefix_rfl ex)
          · exact p.elim
        · exact p.elim
      · exact p.elim
    · exact p.elim
  · exact p.elim
theorem idx_first {A : Type} [BEq A] [LawfulBEq A] : ∀ {ns : List A} {y : A}, y ∈ ns → ns[ns.idxOf y]? = some y ∧ ∀ m z, m < ns.idxOf y → ns[m]? = some z → (z == y) = false
  | [], _, h => by cases h
  | n :: ns, y, h => by
    by_cases e : n = y
    · subst e
      rw [List.idxOf_cons_self]
      exact ⟨rfl, fun m z hm => absurd hm (Nat.not_lt_zero m)⟩
    · have e' : (n == y) = false := beq_eq_false_iff_ne.mpr e
      rw [List.idxOf_cons, e']
      have hm : y ∈ ns := by
        rcases List.mem_cons.mp h with h | h
        · exact absurd h.symm e
        · exact h
      obtain ⟨h1, h2⟩ := idx_first hm
      refine ⟨by simpa using h1, fun m z hm hz => ?_⟩
      cases m with
      | zero => simp at hz; subst hz; exact e'
      | succ m => exact h2 m z (by simpa using hm) (by simpa using hz)
theorem fIndexL_ok : MethS G (rIndex G.K) fIndexL := by
  intro et H h x v xs vs W Q rx rv R p
  unfold fIndexL at p
  split at p
  · rename_i y
    split at p
    · rename_i ns e
      split at p
      · rename_i c
        obtain ⟨w, rfl, h1⟩ := list1 rv
        obtain ⟨a, rfl, hs⟩ := ints_den R e rx
        obtain ⟨q1, q2⟩ := idx_first c
        refine ⟨a, _, w, ns.idxOf y, .int y, rfl, rfl, hs, by rw [den_int.mp h1]; rfl, ?_, by rw [List.getElem?_map, q1]; rfl, by rw [den_int.mp h1]; simp [eqV], fun m z' hm hz => ?_, p.here R _ (by simp)⟩
        · simp [flatV]
        · rw [List.getElem?_map] at hz
          cases hn : ns[m]? with
          | none => rw [hn] at hz; cases hz
          | some z0 =>
            rw [hn] at hz
            cases hz
            rw [den_int.mp h1]
            exact q2 m z0 hm hn
      · exact p.elim
    · exact p.elim
  · rename_i y
    split at p
    · rename_i ns e
      split at p
      · rename_i c
        obtain ⟨w, rfl, h1⟩ := list1 rv
        obtain ⟨a, rfl, hs⟩ := strs_den R e rx
        obtain ⟨q1, q2⟩ := idx_first c
        refine ⟨a, _, w, ns.idxOf y, .str (strV y), rfl, rfl, hs, by rw [den_str.mp h1]; rfl, ?_, by rw [List.getElem?_map, List.getElem?_map, q1]; rfl, by rw [den_str.mp h1]; simp [eqV], fun m z' hm hz => ?_, p.here R _ (by simp)⟩
        · simp [flatV]
        · rw [List.getElem?_map, List.getElem?_map] at hz
          cases hn : ns[m]? with
          | none => rw [hn] at hz; cases hz
          | some z0 =>
            rw [hn] at hz
            cases hz
            rw [den_str.mp h1]
            have := q2 m z0 hm hn
            exact beq_eq_false_iff_ne.mpr fun z => (beq_eq_false_iff_ne.mp this) (strV_inj z)
      · exact p.elim
    · exact p.elim
  · exact p.elim
end
end NR

set_option Elab.async false
set_option linter.all false
set_option maxRecDepth 100000
/-! zip and enumerate over whatever is not written: lists, tuples, texts, mixed. -/
namespace NR
open PySem PySem.Spec PyProof.Rows L2
open Sem (wp)

inductive Kd where
  | ls (a : Addr)
  | tp (a : Addr)
  | tx (x : Str)
def Kd.v : Kd → V
  | .ls a => .ref a
  | .tp a => .ref a
  | .tx x => .str x
def Kd.At (K : PySem.W.Frag) (H : Hp) : Kd → List V → Prop
  | .ls a, xs => SqL K H a xs
  | .tp a, xs => SqT K H a xs
  | .tx x, xs => xs = x.cps.toList.map fun c => V.str ⟨#[c]⟩
def Kd.It (h : Heap) (it : Addr) : Kd → Nat → Prop
  | .ls a, i => h.IsListIter it a i
  | .tp a, i => h.IsTupleIter it a i
  | .tx x, i => ∃ t, h.IsStrIter it (strIterType x) x t i
def Kd.ad : Kd → List Addr
  | .ls a => [a]
  | .tp a => [a]
  | .tx _ => []
theorem Kd.It.keep {h h' : Heap} {it : Addr} {k : Kd} {i : Nat} (q : k.It h it i) (e : ∀ o, h.get? it = some o → h'.get? it = some o) : k.It h' it i := by
  cases k with
  | ls a => exact Heap.IsListIter.at q e
  | tp a => exact Heap.IsTupleIter.at q e
  | tx x => obtain ⟨t, o, ho, r⟩ := q; exact ⟨t, o, e o ho, r⟩
theorem Kd.It.obj {h : Heap} {it : Addr} {k : Kd} {i : Nat} (q : k.It h it i) : ∃ o, h.get? it = some o ∧ ∀ v, o.data ≠ .cell v := by
  cases k with
  | ls a => obtain ⟨o, e, c, d⟩ := q; exact ⟨o, e, fun v z => by rw [d] at z; cases z⟩
  | tp a => obtain ⟨o, e, c, d⟩ := q; exact ⟨o, e, fun v z => by rw [d] at z; cases z⟩
  | tx x => obtain ⟨t, o, e, c, d⟩ := q; exact ⟨o, e, fun v z => by rw [d] at z; cases z⟩
section
variable {X : Cx} {pins : List (Addr × Obj)} {σ : L2.St} {H : Hp} {s : Shared}
theorem Kd.At.inj (I : Inv X pins σ H s) {k : Kd} {xs ys : List V} (a : k.At X.K H xs) (b : k.At X.K H ys) : xs = ys := by
  cases k with
  | ls d => exact I.list_inj a b
  | tp d => exact I.tuple_inj a b
  | tx x => exact a.trans b.symm
theorem vals_draw {xs : List V} {its : List Value} (r : Vals xs its) {j : Nat} {u : Value} (e : its.toArray[j]? = some u) : ∃ x, xs[j]? = some x ∧ RelV x u := by
  have hl := r.length
  have e' : its[j]? = some u := by simpa using e
  have hj : j < its.length := (List.getElem?_eq_some_iff.mp e').1
  have hx : xs[j]? = some (xs[j]'(by omega)) := List.getElem?_eq_getElem (by omega)
  obtain ⟨u', hu, ru⟩ := r.get hx
  rw [e'] at hu
  cases hu
  exact ⟨_, hx, ru⟩
theorem Kd.draws (I : Inv X pins σ H s) (k : Kd) {xs : List V} {it : Addr} {i : Nat} (ha : k.At X.K H xs) (hi : k.It s.heap it i) (hn : it ∉ k.ad) {A : Around} (hh : A.handled = none) :
    ∃ (P : Nat → Value → Prop) (St : Nat → Heap → Prop), Draws X.prog X.w A it (it :: k.ad) xs.length P St ∧ St i s.heap ∧ (∀ j u, P j u → ∃ x, xs[j]? = some x ∧ RelV x u) ∧ ∀ j h, St j h → k.It h it j := by
  cases k with
  | ls a =>
    obtain ⟨its, rv, p, hz⟩ := I.list ha
    have e : its.toArray.size = xs.length := by have := rv.length; simp; omega
    have D := Draws.list (prog := X.prog) (w := X.w) (A := A) hh it a (fun z => hn (by simp [Kd.ad, z])) its.toArray
    rw [e] at D
    exact ⟨_, _, D, ⟨hi, p.isList⟩, fun j u q => vals_draw rv q, fun j h q => q.1⟩
  | tp a =>
    obtain ⟨its, rv, p, hz⟩ := I.tuple ha
    have e : its.toArray.size = xs.length := by have := rv.length; simp; omega
    have D := Draws.tuple (prog := X.prog) (w := X.w) (A := A) hh it a (fun z => hn (by simp [Kd.ad, z])) its.toArray
    rw [e] at D
    exact ⟨_, _, D, ⟨hi, p⟩, fun j u q => vals_draw rv q, fun j h q => q.1⟩
  | tx x =>
    obtain ⟨t, hi⟩ := hi
    have e : x.cps.size = xs.length := by rw [show xs = _ from ha]; simp
    have D := Draws.text (prog := X.prog) (w := X.w) (A := A) hh it x t
    rw [e] at D
    refine ⟨_, _, D, hi, fun j u ⟨c, t', hc, q⟩ => ⟨.str ⟨#[c]⟩, ?_, t', q⟩, fun j h q => ⟨t, q⟩⟩
    rw [show xs = _ from ha]
    simp [hc]
theorem Kd.begins (I : Inv X pins σ H s) (k : Kd) {xs : List V} (ha : k.At X.K H xs) {u : Value} (r : RelV k.v u) :
    ∃ (o : Obj) (B : Heap → Prop), Begins u o B ∧ B s.heap ∧ (∀ (h : Heap) (it : Addr), h.get? it = some o → k.It h it 0) ∧ ∀ b ∈ k.ad, b < s.heap.objs.size := by
  cases k with
  | ls a =>
    obtain ⟨its, rv, p, hz⟩ := I.list ha
    obtain rfl : u = Value.ref a := r
    exact ⟨_, _, begins_list a its.toArray, p.isList, fun h it e => ⟨_, e, rfl, rfl⟩, fun b hb => by
      obtain rfl : b = a := by simpa [Kd.ad] using hb
      exact p.lt⟩
  | tp a =>
    obtain ⟨its, rv, p, hz⟩ := I.tuple ha
    obtain rfl : u = Value.ref a := r
    refine ⟨_, _, begins_tuple a its.toArray, p, fun h it e => ⟨_, e, rfl, rfl⟩, fun b hb => ?_⟩
    obtain rfl : b = a := by simpa [Kd.ad] using hb
    obtain ⟨o, e, _⟩ := p
    exact Heap.lt_size e
  | tx x =>
    obtain ⟨t, rfl⟩ := r
    exact ⟨_, _, begins_text x t, trivial, fun h it e => ⟨t, _, e, rfl, rfl⟩, fun b hb => by simp [Kd.ad] at hb⟩
end

/-- two walked side by side, n of them -/
def Itq (K : PySem.W.Frag) (k1 k2 : Kd) (n : Nat) : It :=
  ⟨fun i H => i < n ∧ ∃ xs ys, k1.At K H xs ∧ k2.At K H ys ∧ min xs.length ys.length = n,
    fun i H v H' => ∃ T x y, v = .ref T ∧ H T = none ∧ H' = upd H T (.tup [x, y]) ∧ (∀ xs, k1.At K H xs → xs[i]? = some x) ∧ ∀ ys, k2.At K H ys → ys[i]? = some y,
    fun i H => n ≤ i ∧ ∃ xs ys, k1.At K H xs ∧ k2.At K H ys ∧ min xs.length ys.length = n⟩
def Ieq (K : PySem.W.Frag) (k : Kd) (c : Int) (n : Nat) : It :=
  ⟨fun i H => i < n ∧ ∃ xs, k.At K H xs ∧ xs.length = n,
    fun i H v H' => ∃ T x, v = .ref T ∧ H T = none ∧ H' = upd H T (.tup [.int (c + (i : Nat)), x]) ∧ ∀ xs, k.At K H xs → xs[i]? = some x,
    fun i H => n ≤ i ∧ ∃ xs, k.At K H xs ∧ xs.length = n⟩
def Zst (k1 k2 : Kd) (n N : Nat) (i : Nat) (h : Heap) : Prop :=
  i ≤ n ∧ IsZip h (N + 4) (N + 2) (N + 3) .none ∧ IsTupOf2 h (N + 2) (.ref N) (.ref (N + 1)) ∧ (∃ a b, IsTupOf2 h (N + 3) a b) ∧ k1.It h N i ∧ k2.It h (N + 1) i
theorem Zst.obj {k1 k2 : Kd} {n N i : Nat} {h : Heap} (q : Zst k1 k2 n N i h) : ∀ b ∈ [N + 4, N + 2, N + 3, N, N + 1], ∃ o, h.get? b = some o ∧ ∀ v, o.data ≠ .cell v := by
  obtain ⟨_, z, ti, ⟨a, b, to⟩, p1, p2⟩ := q
  intro c hc
  have : c = N + 4 ∨ c = N + 2 ∨ c = N + 3 ∨ c = N ∨ c = N + 1 := by simpa using hc
  rcases this with e | e | e | e | e <;> subst e
  · exact ⟨_, z, fun v x => nomatch x⟩
  · exact ⟨_, ti, fun v x => nomatch x⟩
  · exact ⟨_, to, fun v x => nomatch x⟩
  · exact p1.obj
  · exact p2.obj
theorem ad_new {k : Kd} {N j : Nat} (h : ∀ b ∈ k.ad, b < N) : N + j ∉ k.ad := fun x => absurd (h _ x) (Nat.not_lt.mpr (Nat.le_add_right N j))
section
variable {P : Program} {w : World} {K : PySem.W.Frag} {elts : List Expr} {kk : Nat} {tpos : Pos}
theorem turn_zq (k1 k2 : Kd) (n N : Nat) (h1 : ∀ b ∈ k1.ad, b < N) (h2 : ∀ b ∈ k2.ad, b < N) :
    Turn P w K (.Tuple elts kk tpos) (Itq K k1 k2 n) [N + 4, N + 2, N + 3, N, N + 1] (N + 4) (Zst k1 k2 n N) where
  mem := by simp
  obj := fun i h q => q.obj
  keep := fun i h h' q k => by
    obtain ⟨l, z, ti, ⟨a, b, to⟩, p1, p2⟩ := q
    exact ⟨l, k _ (by simp) _ z, k _ (by simp) _ ti, ⟨a, b, k _ (by simp) _ to⟩, p1.keep fun o e => k _ (by simp) o e, p2.keep fun o e => k _ (by simp) o e⟩
  item := by
    intro X hP hw hK hc i pins s σ H E I hf st hg
    subst hP hw hK
    obtain ⟨hlt, xs, ys, a1, a2, hm⟩ := hg
    have live : ∀ b ∈ [N + 4, N + 2, N + 3, N, N + 1], b < s.heap.objs.size := fun b hb => by
      obtain ⟨o, e, _⟩ := st.obj b hb
      exact Heap.lt_size e
    obtain ⟨hle, hz, hTI, hTO, q1, q2⟩ := st
    obtain ⟨P1, S1, D1, s1, r1, g1⟩ := Kd.draws (A := X.A.in1) I k1 a1 q1 (ad_new (j := 0) h1) (I.ok.hd hc)
    obtain ⟨P2, S2, D2, s2, r2, g2⟩ := Kd.draws (A := X.A.in1) I k2 a2 q2 (ad_new (j := 1) h2) (I.ok.hd hc)
    have Wz := GoesN.zip2 (elts := elts) (x1 := kk) (pos := tpos) (zip_sep2 h1 h2) D1 D2
    refine Wz.goes i s _ E (by rw [hm]; exact hlt) ⟨hz, hTI, hTO, s1, s2⟩ fun v h' tk hY st' hk htk => ?_
    obtain ⟨T, u1, u2, rfl, hT, pu1, pu2, hTup⟩ := hY
    obtain ⟨x, hx, rx⟩ := r1 _ _ pu1
    obtain ⟨y, hy, ry⟩ := r2 _ _ pu2
    have new : ObjOk X.prog X.w (upd H T (.tup [x, y])) h' T (.tup [x, y]) := ⟨by show 2 ≤ sizeLine; decide, [u1, u2], .cons rx (.cons ry .nil), hTup⟩
    have I1 := I.turnedNew (t' := tk) (ch := [N + 4, N + 2, N + 3, N, N + 1]) (fun b o hb e => hk b o (fun z => hb (by
      have : b = N + 4 ∨ b = N + 3 ∨ b = N ∨ b = N + 1 := by simpa using z
      rcases this with e | e | e | e <;> simp [e])) e) hf hT new
    refine ⟨.ref T, _, I1, rfl, ⟨T, x, y, rfl, I.hok.fresh hT, rfl, fun l hl => ?_, fun l hl => ?_⟩, ⟨hlt, st'.1, st'.2.1, st'.2.2.1, g1 _ _ st'.2.2.2.1, g2 _ _ st'.2.2.2.2⟩, fun b hb => ?_⟩
    · rw [Kd.At.inj I hl a1]; exact hx
    · rw [Kd.At.inj I hl a2]; exact hy
    · rw [upd_ne (Nat.ne_of_lt (Nat.lt_of_lt_of_le (live b hb) hT))]
      exact (hf b hb).1
  done := by
    intro X hP hw hK hc i pins s σ H E I hf st hg
    subst hP hw hK
    obtain ⟨hge, xs, ys, a1, a2, hm⟩ := hg
    obtain ⟨hle, hz, hTI, hTO, q1, q2⟩ := st
    have hi : i = min xs.length ys.length := by omega
    obtain ⟨P1, S1, D1, s1, r1, g1⟩ := Kd.draws (A := X.A.in1) I k1 a1 q1 (ad_new (j := 0) h1) (I.ok.hd hc)
    obtain ⟨P2, S2, D2, s2, r2, g2⟩ := Kd.draws (A := X.A.in1) I k2 a2 q2 (ad_new (j := 1) h2) (I.ok.hd hc)
    have Wz := GoesN.zip2 (elts := elts) (x1 := kk) (pos := tpos) (zip_sep2 h1 h2) D1 D2
    rw [hi] at s1 s2
    refine Wz.stops s _ E ⟨hz, hTI, hTO, s1, s2⟩ fun h' tk hk htk => ?_
    exact I.turnedL (t' := tk) (ch := [N + 4, N + 2, N + 3, N, N + 1]) (fun b o hb e => hk b o (fun z => hb (by
      have : b = N + 4 ∨ b = N + 3 ∨ b = N ∨ b = N + 1 := by simpa using z
      rcases this with e | e | e | e <;> simp [e])) e) hf
  self := fun A i s Q E st h => wpAny_pyIter_zip st.2.1 h
def Est (k : Kd) (c : Int) (n N : Nat) (i : Nat) (h : Heap) : Prop := i ≤ n ∧ (∃ old, IsEnum h (N + 1) N (c + (i : Int)) old) ∧ k.It h N i
theorem Est.obj {k : Kd} {c : Int} {n N i : Nat} {h : Heap} (q : Est k c n N i h) : ∀ b ∈ [N + 1, N], ∃ o, h.get? b = some o ∧ ∀ v, o.data ≠ .cell v := by
  obtain ⟨_, ⟨o, z⟩, p⟩ := q
  intro b hb
  have : b = N + 1 ∨ b = N := by simpa using hb
  rcases this with e | e <;> subst e
  · exact ⟨_, z, fun v x => nomatch x⟩
  · exact p.obj
theorem turn_eq (k : Kd) (c : Int) (n N : Nat) (h1 : ∀ b ∈ k.ad, b < N) :
    Turn P w K (.Tuple elts kk tpos) (Ieq K k c n) [N + 1, N] (N + 1) (Est k c n N) where
  mem := by simp
  obj := fun i h q => q.obj
  keep := fun i h h' q kp => by
    obtain ⟨l, ⟨o, z⟩, p⟩ := q
    exact ⟨l, ⟨o, kp _ (by simp) _ z⟩, p.keep fun o e => kp _ (by simp) o e⟩
  item := by
    intro X hP hw hK hc i pins s σ H E I hf st hg
    subst hP hw hK
    obtain ⟨hlt, xs, a1, hm⟩ := hg
    have live : ∀ b ∈ [N + 1, N], b < s.heap.objs.size := fun b hb => by
      obtain ⟨o, e, _⟩ := st.obj b hb
      exact Heap.lt_size e
    obtain ⟨hle, hz, q1⟩ := st
    obtain ⟨P1, S1, D1, s1, r1, g1⟩ := Kd.draws (A := X.A.in1) I k a1 q1 (ad_new (j := 0) h1) (I.ok.hd hc)
    have We := GoesN.enumFrom (elts := elts) (x1 := kk) (pos := tpos) c D1 (N + 1) (Nat.succ_ne_self _) (notIn_new (j := 1) (i := 0) h1 (by omega)) (by simp)
    refine We.goes i s _ E (by rw [hm]; exact hlt) ⟨hz, s1⟩ fun v h' tk hY st' hk htk => ?_
    obtain ⟨T, t, u, rfl, hT, pu, hTup⟩ := hY
    obtain ⟨x, hx, rx⟩ := r1 _ _ pu
    have new : ObjOk X.prog X.w (upd H T (.tup [.int (c + (i : Nat)), x])) h' T (.tup [.int (c + (i : Nat)), x]) := ⟨by show 2 ≤ sizeLine; decide, [.int (c + (i : Int)) t, u], .cons ⟨t, rfl⟩ (.cons rx .nil), hTup⟩
    have I1 := I.turnedNew (t' := tk) (ch := [N + 1, N]) (fun b o hb e => hk b o hb e) hf hT new
    refine ⟨.ref T, _, I1, rfl, ⟨T, x, rfl, I.hok.fresh hT, rfl, fun l hl => ?_⟩, ⟨hlt, st'.1, g1 _ _ st'.2⟩, fun b hb => ?_⟩
    · rw [Kd.At.inj I hl a1]; exact hx
    · rw [upd_ne (Nat.ne_of_lt (Nat.lt_of_lt_of_le (live b hb) hT))]
      exact (hf b hb).1
  done := by
    intro X hP hw hK hc i pins s σ H E I hf st hg
    subst hP hw hK
    obtain ⟨hge, xs, a1, hm⟩ := hg
    obtain ⟨hle, hz, q1⟩ := st
    have hi : i = xs.length := by omega
    obtain ⟨P1, S1, D1, s1, r1, g1⟩ := Kd.draws (A := X.A.in1) I k a1 q1 (ad_new (j := 0) h1) (I.ok.hd hc)
    have We := GoesN.enumFrom (elts := elts) (x1 := kk) (pos := tpos) c D1 (N + 1) (Nat.succ_ne_self _) (notIn_new (j := 1) (i := 0) h1 (by omega)) (by simp)
    rw [hi] at s1 hz
    refine We.stops s _ E ⟨hz, s1⟩ fun h' tk hk htk => ?_
    exact I.turnedL (t' := tk) (ch := [N + 1, N]) (fun b o hb e => hk b o hb e) hf
  self := fun A i s Q E st h => let ⟨_, ⟨_, z⟩, _⟩ := st; wpAny_pyIter_enum z h
end

set_option maxHeartbeats 1000000 in
/-- enumerate of one thing -/
theorem meets_enum1 {x : Value} {ob : Obj} {B : Heap → Prop} (b : Begins x ob B) :
    Meets (Builtin.«enumerate.__new__» ⟨[.type "enumerate", x], []⟩) (fun _ R s => B s.heap ∧ R (.ok (.ret (.ref (s.heap.push ob).objs.size)))
      { s with heap := (s.heap.push ob).push { cls := .type "enumerate", data := .fields #[.none, .bool false, .ref s.heap.objs.size, rawInt 0, .none, .none] } }) := .of_wp fun pr w A R s hh => by
  obtain ⟨hp, gg, dd, tt, oo⟩ := s
  obtain ⟨hb, hh⟩ := hh
  have hsub := sub_enumerate
  have qi : ∀ {A' : Around} {E : Value → Shared → Prop} {Q : Value → Shared → Prop}, Q (.ref hp.objs.size) ⟨hp.push ob, gg, dd, tt, oo⟩ → wpAny (model pr w) A' (pyIter x) Q E ⟨hp, gg, dd, tt, oo⟩ := fun z => b.iter pr w _ _ ⟨hp, gg, dd, tt, oo⟩ _ hb z
  wp_walk using qi
  refine wpAny_stack_any fun st => wpAny_pure ?_
  split
  · rename_i cc _ _ _ _ _
    cases (cc == Value.type "enumerate") <;> (wp_walk using qi; exact ⟨_, rfl, hh⟩)
  · wp_walk using qi
    exact ⟨_, rfl, hh⟩
theorem call_enum1 {prog : Program} {w : World} {A : Around} {E : Value → Shared → Prop} {s : Shared} {x : Value} {ob : Obj} {B : Heap → Prop} {Q : Value → Shared → Prop} (b : Begins x ob B) (hb : B s.heap)
    (k : ∀ h', IsEnum h' (s.heap.objs.size + 1) s.heap.objs.size 0 .none → h'.get? s.heap.objs.size = some ob → (∀ c o, s.heap.get? c = some o → h'.get? c = some o) → Q (.ref (s.heap.objs.size + 1)) { s with heap := h' }) :
    wpAny (model prog w) A (call (.type "enumerate") [x]) Q E s := by
  refine callType_new F.called_enumerate (by decide) (F.typeCall_enumerate_1 _) (F.newCall_enumerate_1 _) (fun obj => F.args_object_init_2 obj _) F.entry_enumerate_new (meets_enum1 b) ⟨hb, ?_⟩
  have sz : (s.heap.push ob).objs.size = s.heap.objs.size + 1 := Heap.size_push ..
  have g := Heap.get?_push_size (s.heap.push ob) (o := { cls := .type "enumerate", data := .fields #[.none, .bool false, .ref s.heap.objs.size, rawInt 0, .none, .none] }) rfl
  rw [sz] at g
  show _ ∧ _
  rw [sz]
  exact ⟨⟨_, g, rfl⟩, k _ g (Heap.get?_push_of_some _ (Heap.get?_push_size _ b.free)) fun c o e => Heap.get?_push_of_some _ (Heap.get?_push_of_some _ e)⟩

def iZq (K : PySem.W.Frag) (ta : TA) : TI := fun σ H R => ta σ H fun vs H1 => ∃ k1 k2 xs ys, vs = [Kd.v k1, Kd.v k2] ∧ k1.At K H1 xs ∧ k2.At K H1 ys ∧ R (Itq K k1 k2 (min xs.length ys.length)) H1
def iEq (K : PySem.W.Frag) (ta : TA) : TI := fun σ H R => ta σ H fun vs H1 => ∃ k xs, vs = [Kd.v k] ∧ k.At K H1 xs ∧ R (Ieq K k 0 xs.length) H1
section
variable {X : Cx} {e e2 : Expr} {ta : TA} {p pos tpos : Pos} {elts : List Expr} {kk : Nat}
theorem pi_zq (hg : Gl X "zip") (hm : X.mg "zip" = none) (ha : PA X [e, e2] ta) (hs : starEach [e, e2] X.env = (false, eval e X.env) :: starEach [e2] X.env := by rfl) (hpl : (backTo pos (starEach [e2] X.env)).any (·.1) = false := by rfl) :
    PI X (.Tuple elts kk tpos) (.Call (.Name "zip" p) [e, e2] [] pos) (iZq X.K ta) := by
  refine ⟨fun pins s σ H R I h => ?_⟩
  refine Call_ (ld_blt I hg hm PyProof.Rows.boot_zip (PyProof.Rows.callWith_type1 (thn (ha.run pos pins s σ H _ I h) fun us s1 ⟨vs, H1, I1, rr, k1, k2, xs, ys, ex, a1, a2, q⟩ => ?_) hs hpl))
  subst ex
  cases rr with
  | cons r rr =>
    cases rr with
    | cons r' rr =>
      cases rr
      obtain ⟨o1, B1, b1, t1, g1, l1⟩ := Kd.begins I1 k1 a1 r
      obtain ⟨o2, B2, b2, t2, g2, l2⟩ := Kd.begins I1 k2 a2 r'
      refine zip_begins2 b1 b2 t1 t2 fun h' hz hTI hTO hx hy hsz hk => wpAny_pyIter_zip hz ?_
      have I2 : Inv X pins σ H1 { s1 with heap := h' } := I1.kept (t' := s1.toks) hk
      refine ⟨s1.heap.objs.size + 4, [s1.heap.objs.size + 4, s1.heap.objs.size + 2, s1.heap.objs.size + 3, s1.heap.objs.size, s1.heap.objs.size + 1], _, _, H1, rfl, I2, turn_zq k1 k2 (min xs.length ys.length) s1.heap.objs.size l1 l2, ⟨Nat.zero_le _, hz, hTI, ⟨_, _, hTO⟩, g1 _ _ hx, g2 _ _ hy⟩, fun b hb => ?_, q⟩
      have : b = s1.heap.objs.size + 4 ∨ b = s1.heap.objs.size + 2 ∨ b = s1.heap.objs.size + 3 ∨ b = s1.heap.objs.size ∨ b = s1.heap.objs.size + 1 := by simpa using hb
      have hle : s1.heap.objs.size ≤ b := by rcases this with z | z | z | z | z <;> rw [z] <;> simp
      exact I1.fpOk hle (I1.hok.fresh hle)
theorem pi_eq (hg : Gl X "enumerate") (hm : X.mg "enumerate" = none) (ha : PA X [e] ta) (hs : starEach [e] X.env = [(false, eval e X.env)] := by rfl) :
    PI X (.Tuple elts kk tpos) (.Call (.Name "enumerate" p) [e] [] pos) (iEq X.K ta) := by
  refine ⟨fun pins s σ H R I h => ?_⟩
  refine Call_ (ld_blt I hg hm boot_enumerate (PyProof.Rows.callWith_type1 (thn (ha.run pos pins s σ H _ I h) fun us s1 ⟨vs, H1, I1, rr, k, xs, ex, a1, q⟩ => ?_) hs rfl))
  subst ex
  cases rr with
  | cons r rr =>
    cases rr
    obtain ⟨o1, B1, b1, t1, g1, l1⟩ := Kd.begins I1 k a1 r
    refine call_enum1 b1 t1 fun h' hz hx hk => wpAny_pyIter_enum hz ?_
    have I2 : Inv X pins σ H1 { s1 with heap := h' } := I1.kept (t' := s1.toks) hk
    refine ⟨s1.heap.objs.size + 1, [s1.heap.objs.size + 1, s1.heap.objs.size], _, _, H1, rfl, I2, turn_eq k 0 xs.length s1.heap.objs.size l1, ⟨Nat.zero_le _, ⟨_, hz⟩, g1 _ _ hx⟩, fun b hb => ?_, q⟩
    have : b = s1.heap.objs.size + 1 ∨ b = s1.heap.objs.size := by simpa using hb
    have hle : s1.heap.objs.size ≤ b := by rcases this with z | z <;> rw [z] <;> simp
    exact I1.fpOk hle (I1.hok.fresh hle)
end

/-! ### as functions -/
/-- what is not written, as its items -/
def stOf : D → Option (List D)
  | .tup l => some l
  | .fl l => some l
  | .str s => some (s.map fun c => .str [c])
  | _ => none
def qOf (h : IH) : D → Option (List D)
  | .ref n => lstOf h (.ref n)
  | d => stOf d
def zipQ (a b : D) (n : Nat) (h : IH) : Option (List D) := match qOf h a, qOf h b with
  | some l, some l' => if min l.length l'.length = n then some (List.zipWith (fun x y => .tup [x, y]) l l') else none
  | _, _ => none
def enumQ (a : D) (n : Nat) (h : IH) : Option (List D) := match qOf h a with
  | some l => if l.length = n then some (l.mapIdx fun i x => .tup [.int (i : Nat), x]) else none
  | _ => none
def iZip (m : MA) : MI := fun env h => (m env h).bind fun xs h1 => match xs with
  | [a, b] => match stOf a, stOf b with
    | some l, some l' => .ok (.st (List.zipWith (fun x y => .tup [x, y]) l l')) h1
    | _, _ => match qOf h1 a, qOf h1 b with
      | some l, some l' => .ok (.dy (zipQ a b (min l.length l'.length))) h1
      | _, _ => .no
  | _ => .no
def iEnum (m : MA) : MI := fun env h => (m env h).bind fun xs h1 => match xs with
  | [a] => match stOf a with
    | some l => .ok (.st (l.mapIdx fun i x => .tup [.int (i : Nat), x])) h1
    | _ => match qOf h1 a with
      | some l => .ok (.dy (enumQ a l.length)) h1
      | none => .no
  | _ => .no
def kdOf : D → V → Kd
  | .tup _, .ref a => .tp a
  | .str _, .str s => .tx s
  | _, .ref a => .ls a
  | _, _ => .ls 0
theorem q_kd {G : Cf} {et : List Addr} {H : Hp} {h : IH} {d : D} {l : List D} {v : V} (R : HRel G et h H) (e : qOf h d = some l) (r : Den G et H d v) : v = (kdOf d v).v ∧ ∃ xs : List V, DenL G et H l xs ∧ (kdOf d v).At G.K H xs := by
  cases d with
  | ref n =>
    obtain ⟨a, vs, rfl, h2, h3⟩ := lst_ok R (x := .ref n) e r
    exact ⟨rfl, vs, h3, h2⟩
  | tup l' =>
    cases e
    obtain ⟨a, vs, rfl, h2, h3⟩ := den_tup.mp r
    exact ⟨rfl, vs, h3, TpT.sq h2⟩
  | fl l' =>
    cases e
    obtain ⟨a, vs, rfl, h2, h3⟩ := den_fl.mp r
    exact ⟨rfl, vs, h3, h2.sq⟩
  | str s =>
    cases e
    rw [den_str.mp r]
    refine ⟨rfl, _, ?_, rfl⟩
    have : (strV s).cps.toList.map (fun c => V.str ⟨#[c]⟩) = ((s.map fun c => [c]).map strV).map V.str := by simp [strV]
    rw [this, show (s.map fun c => D.str [c]) = (s.map fun c => [c]).map D.str by simp]
    exact DenL.ofStrs
  | _ => cases e
section
variable {X : Cx} {G : Cf} {W : WX} {e e2 : Expr} {mt : MA} {pos p tpos : Pos} {elts : List Expr} {kk : Nat}
theorem stOf_kd {et : List Addr} {H : Hp} {d : D} {l : List D} {v : V} (e : stOf d = some l) (r : Den G et H d v) : ∃ (k : Kd) (xs : List V), v = k.v ∧ DenL G et H l xs ∧ ∀ H', Ext H H' → k.At G.K H' xs := by
  cases d with
  | tup l' =>
    cases e
    obtain ⟨a, vs, rfl, h2, h3⟩ := den_tup.mp r
    exact ⟨.tp a, vs, rfl, h3, fun H' x => x.sqT h2⟩
  | fl l' =>
    cases e
    obtain ⟨a, vs, rfl, h2, h3⟩ := den_fl.mp r
    exact ⟨.ls a, vs, rfl, h3, fun H' x => (h2.ext x).sq⟩
  | str s =>
    cases e
    refine ⟨.tx (strV s), _, den_str.mp r, ?_, fun H' x => rfl⟩
    have : (strV s).cps.toList.map (fun c => V.str ⟨#[c]⟩) = ((s.map fun c => [c]).map strV).map V.str := by simp [strV]
    rw [this, show (s.map fun c => D.str [c]) = (s.map fun c => [c]).map D.str by simp]
    exact DenL.ofStrs
  | _ => cases e
theorem den_pair {et : List Addr} {H : Hp} {h : IH} {a b : D} {x y : V} {T : Addr} (hT : H T = none) (ra : Den G et H a x) (rb : Den G et H b y) : Den G et (upd H T (.tup [x, y])) (.tup [a, b]) (.ref T) := by
  have ex : Ext H (upd H T (.tup [x, y])) := Ext.new hT
  exact den_tup.mpr ⟨T, [x, y], rfl, upd_same .., denL_cons.mpr ⟨x, [y], rfl, ra.mono List.prefix_rfl ex, denL_cons.mpr ⟨y, [], rfl, rb.mono List.prefix_rfl ex, denL_nil.mpr rfl⟩⟩⟩
theorem mi_zip (hK : X.K = G.K) (ha : PA X [e, e2] (tA G W mt)) (hm : X.mg "zip" = none) (hg : Gl X "zip" := by rfl) (hs : starEach [e, e2] X.env = (false, eval e X.env) :: starEach [e2] X.env := by rfl) (hpl : (backTo pos (starEach [e2] X.env)).any (·.1) = false := by rfl) :
    PI X (.Tuple elts kk tpos) (.Call (.Name "zip" p) [e, e2] [] pos) (tI G W (iZip mt)) := PI.imp (pi_zq hg hm ha hs hpl) fun σ H R ⟨et, env, h, hE, hH, hP⟩ => by
  rw [hK]
  refine ⟨et, env, h, hE, hH, (Pst.of_bind hP).imp fun et1 H1 h1 xs p e hr q vs hv => ?_⟩
  split at q
  · rename_i a b
    obtain ⟨v, w, rfl, ra, rb⟩ := list2 hv
    have dyn : ∀ l l', qOf h1 a = some l → qOf h1 b = some l' → Pst G et1 H1 (.ok (Src.dy (zipQ a b (min l.length l'.length))) h1) (fun et' H' _ src => ∀ J, JRel G et' H' src J → R J H') (fun c d H' => W c d σ H') → ∃ k1 k2 xs ys, [v, w] = [Kd.v k1, Kd.v k2] ∧ k1.At G.K H1 xs ∧ k2.At G.K H1 ys ∧ R (Itq G.K k1 k2 (min xs.length ys.length)) H1 := fun l l' ea eb q => by
      obtain ⟨v1, xs, d1, a1⟩ := q_kd hr ea ra
      obtain ⟨v2, ys, d2, a2⟩ := q_kd hr eb rb
      have n1 := d1.len
      have n2 := d2.len
      refine ⟨kdOf a v, kdOf b w, xs, ys, by rw [← v1, ← v2], a1, a2, q.here hr _ fun et2 H2 h2 p2 e2 R2 ok i => ?_⟩
      have ok' : (zipQ a b (min l.length l'.length) h2).isSome = true := ok
      obtain ⟨zs, ez⟩ := Option.isSome_iff_exists.mp ok'
      show (match (zipQ a b (min l.length l'.length) h2).bind fun xs => xs[i]? with | some d => _ | none => _)
      rw [ez]
      unfold zipQ at ez
      cases qa : qOf h2 a with
      | none => rw [qa] at ez; cases ez
      | some m =>
        cases qb : qOf h2 b with
        | none => rw [qa, qb] at ez; cases ez
        | some m' =>
          rw [qa, qb] at ez
          dsimp only at ez
          split at ez
          · rename_i hn
            cases ez
            obtain ⟨_, xs2, f1, b1⟩ := q_kd R2 qa (ra.mono p2 e2)
            obtain ⟨_, ys2, f2, b2⟩ := q_kd R2 qb (rb.mono p2 e2)
            have n3 := f1.len
            have n4 := f2.len
            show (match (List.zipWith (fun x y => D.tup [x, y]) m m')[i]? with | some d => _ | none => _)
            rw [List.getElem?_zipWith]
            cases e3 : m[i]? with
            | none =>
              have := List.getElem?_eq_none_iff.mp e3
              exact ⟨by omega, xs2, ys2, b1, b2, by omega⟩
            | some d =>
              cases e4 : m'[i]? with
              | none =>
                have := List.getElem?_eq_none_iff.mp e4
                exact ⟨by omega, xs2, ys2, b1, b2, by omega⟩
              | some d' =>
                have m1 := (List.getElem?_eq_some_iff.mp e3).1
                have m2 := (List.getElem?_eq_some_iff.mp e4).1
                refine ⟨⟨by omega, xs2, ys2, b1, b2, by omega⟩, fun z H' ⟨T, x, y, hz, hT, hH', hx, hy⟩ => ?_⟩
                subst hz hH'
                obtain ⟨v1, w1, r1⟩ := f1.get e3
                obtain ⟨v2, w2, r2⟩ := f2.get e4
                have x1 := hx _ b1
                have x2 := hy _ b2
                rw [w1] at x1
                rw [w2] at x2
                cases x1
                cases x2
                exact ⟨Ext.new hT, R2.new hT, den_pair (h := h2) hT r1 r2⟩
          · cases ez
    have alt : Pst G et1 H1 (match qOf h1 a, qOf h1 b with
      | some l, some l' => NR.R.ok (Src.dy (zipQ a b (min l.length l'.length))) h1
      | _, _ => .no) (fun et' H' _ src => ∀ J, JRel G et' H' src J → R J H') (fun c d H' => W c d σ H') → ∃ k1 k2 xs ys, [v, w] = [Kd.v k1, Kd.v k2] ∧ k1.At G.K H1 xs ∧ k2.At G.K H1 ys ∧ R (Itq G.K k1 k2 (min xs.length ys.length)) H1 := fun q => by
      cases qa : qOf h1 a with
      | none => rw [qa] at q; exact q.elim
      | some l =>
        cases qb : qOf h1 b with
        | none => rw [qa, qb] at q; exact q.elim
        | some l' => rw [qa, qb] at q; exact dyn l l' qa qb q
    cases ea : stOf a with
    | none => rw [ea] at q; exact alt q
    | some l =>
      cases eb : stOf b with
      | none => rw [ea, eb] at q; exact alt q
      | some l' =>
        rw [ea, eb] at q
        obtain ⟨k1, xs, rfl, d1, st1⟩ := stOf_kd ea ra
        obtain ⟨k2, ys, rfl, d2, st2⟩ := stOf_kd eb rb
        refine ⟨k1, k2, xs, ys, rfl, st1 _ (Ext.refl _), st2 _ (Ext.refl _), q.here hr _ (jrel_st fun et2 H2 h2 p2 e2 R2 i => ?_)⟩
        have n1 := d1.len
        have n2 := d2.len
        rw [List.getElem?_zipWith]
        cases e3 : l[i]? with
        | none =>
          have := List.getElem?_eq_none_iff.mp e3
          exact ⟨by omega, xs, ys, st1 _ e2, st2 _ e2, rfl⟩
        | some d =>
          cases e4 : l'[i]? with
          | none =>
            have := List.getElem?_eq_none_iff.mp e4
            exact ⟨by omega, xs, ys, st1 _ e2, st2 _ e2, rfl⟩
          | some d' =>
            have m1 := (List.getElem?_eq_some_iff.mp e3).1
            have m2 := (List.getElem?_eq_some_iff.mp e4).1
            refine ⟨⟨by omega, xs, ys, st1 _ e2, st2 _ e2, rfl⟩, fun z H' ⟨T, x, y, hz, hT, hH', hx, hy⟩ => ?_⟩
            subst hz hH'
            obtain ⟨v1, w1, r1⟩ := d1.get e3
            obtain ⟨v2, w2, r2⟩ := d2.get e4
            have x1 := hx _ (st1 _ e2)
            have x2 := hy _ (st2 _ e2)
            rw [w1] at x1
            rw [w2] at x2
            cases x1
            cases x2
            exact ⟨Ext.new hT, R2.new hT, den_pair (h := h2) hT (r1.mono p2 e2) (r2.mono p2 e2)⟩
  · exact q.elim
theorem mi_enum (hK : X.K = G.K) (ha : PA X [e] (tA G W mt)) (hm : X.mg "enumerate" = none) (hg : Gl X "enumerate" := by rfl) (hs : starEach [e] X.env = [(false, eval e X.env)] := by rfl) :
    PI X (.Tuple elts kk tpos) (.Call (.Name "enumerate" p) [e] [] pos) (tI G W (iEnum mt)) := PI.imp (pi_eq hg hm ha hs) fun σ H R ⟨et, env, h, hE, hH, hP⟩ => by
  rw [hK]
  refine ⟨et, env, h, hE, hH, (Pst.of_bind hP).imp fun et1 H1 h1 xs p e hr q vs hv => ?_⟩
  split at q
  · rename_i a
    obtain ⟨v, rfl, ra⟩ := list1 hv
    cases ea : stOf a with
    | none =>
      rw [ea] at q
      cases qa : qOf h1 a with
      | none => rw [qa] at q; exact q.elim
      | some l =>
        rw [qa] at q
        obtain ⟨v1, xs, d1, a1⟩ := q_kd hr qa ra
        have n1 := d1.len
        refine ⟨kdOf a v, xs, by rw [← v1], a1, q.here hr _ fun et2 H2 h2 p2 e2 R2 ok i => ?_⟩
        have ok' : (enumQ a l.length h2).isSome = true := ok
        obtain ⟨zs, ez⟩ := Option.isSome_iff_exists.mp ok'
        show (match (enumQ a l.length h2).bind fun xs => xs[i]? with | some d => _ | none => _)
        rw [ez]
        unfold enumQ at ez
        cases qb : qOf h2 a with
        | none => rw [qb] at ez; cases ez
        | some m =>
          rw [qb] at ez
          dsimp only at ez
          split at ez
          · rename_i hn
            cases ez
            obtain ⟨_, xs2, f1, b1⟩ := q_kd R2 qb (ra.mono p2 e2)
            have n3 := f1.len
            show (match (m.mapIdx fun i x => D.tup [.int (i : Nat), x])[i]? with | some d => _ | none => _)
            rw [List.getElem?_mapIdx]
            cases e3 : m[i]? with
            | none =>
              have := List.getElem?_eq_none_iff.mp e3
              exact ⟨by omega, xs2, b1, by omega⟩
            | some d =>
              have m1 := (List.getElem?_eq_some_iff.mp e3).1
              refine ⟨⟨by omega, xs2, b1, by omega⟩, fun z H' ⟨T, x, hz, hT, hH', hx⟩ => ?_⟩
              subst hz hH'
              obtain ⟨v1, w1, r1⟩ := f1.get e3
              have x1 := hx _ b1
              rw [w1] at x1
              cases x1
              exact ⟨Ext.new hT, R2.new hT, den_pair (h := h2) hT (by simp) r1⟩
          · cases ez
    | some l =>
      rw [ea] at q
      obtain ⟨k1, xs, rfl, d1, st1⟩ := stOf_kd ea ra
      refine ⟨k1, xs, rfl, st1 _ (Ext.refl _), q.here hr _ (jrel_st fun et2 H2 h2 p2 e2 R2 i => ?_)⟩
      have n1 := d1.len
      rw [List.getElem?_mapIdx]
      cases e3 : l[i]? with
      | none =>
        have := List.getElem?_eq_none_iff.mp e3
        exact ⟨by omega, xs, st1 _ e2, rfl⟩
      | some d =>
        have m1 := (List.getElem?_eq_some_iff.mp e3).1
        refine ⟨⟨by omega, xs, st1 _ e2, rfl⟩, fun z H' ⟨T, x, hz, hT, hH', hx⟩ => ?_⟩
        subst hz hH'
        obtain ⟨v1, w1, r1⟩ := d1.get e3
        have x1 := hx _ (st1 _ e2)
        rw [w1] at x1
        cases x1
        exact ⟨Ext.new hT, R2.new hT, den_pair (h := h2) hT (by simp) (r1.mono p2 e2)⟩
  · exact q.elim
end
end NR

set_option Elab.async false
set_option linter.all false
set_option maxRecDepth 100000
set_option maxHeartbeats 1000000
/-! A def that calls itself. -/
namespace NR
open PySem PySem.Spec PyProof.Rows L2
/-- nothing is told -/
def mNo : MF := fun _ _ => .no
theorem fnG_no {P : Program} {w : World} {K : PySem.W.Frag} {mg : Str → Option Value} {base : Heap} {G : Cf} {x : Str} {st : Stmt} {ps : List Str} {k n : Nat} (d : DefAt K mg x st ps) (hn : ps.length = n) : FnG P w K mg base G x k n mNo :=
  d.fn fun f fd F => ⟨fun vs H Q E h => h.1.trans hn.symm, fun A outer s H args us vs Q E hr he hb hv hs => by
    obtain ⟨_, et, ds, h, _, _, hP⟩ := hs
    exact hP.elim⟩
end NR

set_option Elab.async false
set_option linter.all false
set_option maxRecDepth 100000
set_option maxHeartbeats 1000000
/-! Dicts: keys ints and texts, or tuples of such. -/
namespace NR
open PySem PySem.Spec PyProof.Rows L2
def keyT? : D → Option (List DKey)
  | .tup l => allM keyD? l
  | _ => none
def valKD {κ : Type} [DecidableEq κ] (kvs : List (κ × D)) (k : κ) : Option D := (kvs.find? fun p => decide (p.1 = k)).map (·.2)
/-- what a dict holds at a key -/
def dGet? (h : IH) (o i : D) : Option (Option D) := match o with
  | .ref n => match h[n]? with
    | some (.dk kvs) => (keyD? i).map (valKD kvs)
    | some (.dt kvs) => (keyT? i).map (valKD kvs)
    | _ => none
  | .fd ks l => (keyD? i).map (valKD (ks.zip l))
  | _ => none
theorem key_den {G : Cf} {et : List Addr} {H : Hp} {d : D} {v : V} {k : DKey} (e : keyD? d = some k) (r : Den G et H d v) : v = kV (keyV k) := by
  unfold keyD? at e
  split at e
  · cases e; exact den_int.mp r
  · cases e; exact den_str.mp r
  · cases e
theorem keys_den {G : Cf} {et : List Addr} {H : Hp} : ∀ {l : List D} {vs : List V} {ks : List DKey}, allM keyD? l = some ks → DenL G et H l vs → vs = (ks.map keyV).map kV
  | [], vs, ks, e, r => by
    simp only [allM, Option.some.injEq] at e
    subst e
    exact denL_nil.mp r
  | d :: l, vs, ks, e, r => by
    obtain ⟨a, as, e1, e2, rfl⟩ := allM_cons e
    obtain ⟨v, ws, rfl, r1, r2⟩ := denL_cons.mp r
    rw [key_den e1 r1, keys_den e2 r2]
    rfl
theorem keyVs_inj : ∀ {a b : List DKey}, a.map keyV = b.map keyV → a = b
  | [], [], _ => rfl
  | [], _ :: _, h => by simp at h
  | _ :: _, [], h => by simp at h
  | x :: a, y :: b, h => by
    simp only [List.map_cons, List.cons.injEq] at h
    rw [keyV_inj h.1, keyVs_inj h.2]
def OptR (G : Cf) (et : List Addr) (H : Hp) : Option D → Option V → Prop
  | some d, some v => Den G et H d v
  | none, none => True
  | _, _ => False
theorem denK_val {κ κ' : Type} [DecidableEq κ] [DecidableEq κ'] {f : κ → κ'} (inj : ∀ a b, f a = f b → a = b) {G : Cf} {et : List Addr} {H : Hp} (k : κ) : ∀ {kvs : List (κ × D)} {ws : List (κ' × V)}, DenK f G et H kvs ws →
    OptR G et H (valKD kvs k) (valV ws (f k))
  | [], [], h => trivial
  | [], _ :: _, h => by have := h.1; simp at this
  | _ :: _, [], h => by have := h.1; simp at this
  | p :: kvs, q :: ws, h => by
    obtain ⟨h1, h2⟩ := h
    simp only [List.map_cons, List.cons.injEq] at h1
    simp only [List.map_cons] at h2
    obtain ⟨v0, ws0, e0, h3, h4⟩ := denL_cons.mp h2
    simp only [List.cons.injEq] at e0
    obtain ⟨rfl, rfl⟩ := e0
    have ih := denK_val inj (G := G) (et := et) (H := H) k (kvs := kvs) (ws := ws) ⟨h1.2, h4⟩
    by_cases e : p.1 = k
    · have e' : q.1 = f k := by rw [h1.1, e]
      have a1 : valKD (p :: kvs) k = some p.2 := by simp [valKD, e]
      rw [a1, valV_pos e']
      exact h3
    · have e' : ¬ q.1 = f k := fun z => e (inj _ _ (h1.1.symm.trans z))
      have a1 : valKD (p :: kvs) k = valKD kvs k := by simp [valKD, e]
      rw [a1, valV_neg e']
      exact ih
theorem denK_zip {G : Cf} {et : List Addr} {H : Hp} : ∀ {ks : List DKey} {l : List D} {ws : List (Key × V)}, ws.map (·.1) = ks.map keyV → DenL G et H l (ws.map (·.2)) → DenK keyV G et H (ks.zip l) ws
  | [], l, [], h1, h2 => by
    have := h2.len
    have : l = [] := List.eq_nil_of_length_eq_zero (by simpa using this.symm)
    subst this
    exact ⟨rfl, by simp⟩
  | [], _, _ :: _, h1, _ => by simp at h1
  | _ :: _, _, [], h1, _ => by simp at h1
  | k :: ks, l, w :: ws, h1, h2 => by
    simp only [List.map_cons, List.cons.injEq] at h1 h2
    cases l with
    | nil => have := h2.len; simp at this
    | cons d l =>
      obtain ⟨v0, ws0, e0, h3, h4⟩ := denL_cons.mp h2
      simp only [List.cons.injEq] at e0
      obtain ⟨e1, e2⟩ := e0
      have ih := denK_zip h1.2 (e2 ▸ h4)
      refine ⟨by simp [h1.1, ih.1], ?_⟩
      simp only [List.zip_cons_cons, List.map_cons]
      exact denL_cons.mpr ⟨w.2, _, rfl, by rw [e1]; exact h3, ih.2⟩
section
variable {G : Cf} {et : List Addr} {H : Hp} {h : IH}
theorem dget_of (R : HRel G et h H) {o i : D} {r : Option D} {vo vi : V} (e : dGet? h o i = some r) (ro : Den G et H o vo) (ri : Den G et H i vi) : ∃ a u, vo = .ref a ∧ DGet H a vi u ∧ OptR G et H r u := by
  cases o with
  | ref n =>
    obtain ⟨a, h1, rfl⟩ := den_ref.mp ro
    simp only [dGet?] at e
    split at e
    · rename_i kvs hc
      obtain ⟨ws, c1, c2⟩ := R.cell n _ a hc h1
      simp only [Option.map_eq_some_iff] at e
      obtain ⟨k, e1, rfl⟩ := e
      rw [key_den e1 ri]
      exact ⟨a, _, rfl, DGet.k c1, denK_val (fun a b => keyV_inj) k c2⟩
    · rename_i kvs hc
      obtain ⟨ws, c1, c2⟩ := R.cell n _ a hc h1
      simp only [Option.map_eq_some_iff] at e
      obtain ⟨k, e1, rfl⟩ := e
      cases i with
      | tup l =>
        obtain ⟨b, vs, rfl, t1, t2⟩ := den_tup.mp ri
        have ek := keys_den (show allM keyD? l = some k from e1) t2
        subst ek
        exact ⟨a, _, rfl, DGet.t c1 t1, denK_val (fun a b => keyVs_inj) k c2⟩
      | _ => cases e1
    · cases e
  | fd ks l =>
    obtain ⟨a, ws, rfl, ⟨oo, c1⟩, c2, c3⟩ := den_fd.mp ro
    simp only [dGet?, Option.map_eq_some_iff] at e
    obtain ⟨k, e1, rfl⟩ := e
    rw [key_den e1 ri]
    exact ⟨a, _, rfl, .inl ⟨ws, _, .inr ⟨oo, c1⟩, rfl, rfl⟩, denK_val (fun a b => keyV_inj) k (denK_zip c2 c3)⟩
  | _ => cases e
end
/-- k in d -/
def dDIn (neg : Bool) : D → D → IH → R D := fun x y h => match dGet? h y x with
  | some r => .ok (.bl (if neg then !r.isSome else r.isSome)) h
  | none => .no
/-- d[k] -/
def dDGet : D → D → IH → R D := fun o i h => match dGet? h o i with
  | some (some d) => .ok d h
  | _ => .no
def rDIn (neg : Bool) : R2 := fun x y H Q => ∃ a o, y = .ref a ∧ DGet H a x o ∧ Q (.bl (if neg then !o.isSome else o.isSome)) H
section
variable {X : Cx} {G : Cf} {W : WX}
theorem op_dIn (hu : X.A.units + 64 < cLine) : OpR X (compareOp .In) (rDIn false) := by
  intro pins s σ H x y v u Q I rx ry h
  obtain ⟨a, o, rfl, g, q⟩ := h
  obtain rfl : u = Value.ref a := ry
  exact d_in (by omega) I g rx fun s3 I3 => ⟨.bl o.isSome, H, I3, rfl, q⟩
theorem op_dNotIn (hu : X.A.units + 64 < cLine) : OpR X (compareOp .NotIn) (rDIn true) := by
  intro pins s σ H x y v u Q I rx ry h
  obtain ⟨a, o, rfl, g, q⟩ := h
  obtain rfl : u = Value.ref a := ry
  exact d_notIn (by omega) I g rx fun s3 I3 => ⟨.bl (!o.isSome), H, I3, rfl, q⟩
theorem dDIn_ok (neg : Bool) : OpS G (rDIn neg) (dDIn neg) := by
  intro et H h x y v w W Q rx ry R p
  unfold dDIn at p
  split at p
  · rename_i r e
    obtain ⟨a, u, rfl, g, hr⟩ := dget_of R e ry rx
    have es : u.isSome = r.isSome := by
      cases u <;> cases r <;> first | rfl | exact hr.elim
    refine ⟨a, u, rfl, g, ?_⟩
    rw [es]
    exact p.here R _ (by simp)
  · exact p.elim
theorem me_dget {a b : Expr} {ma mb : ME} {pos : Pos} (hu : X.A.units + 64 < cLine) (ha : PE X a (tE G W ma)) (hb : PE X b (tE G W mb)) (hs : NoSl b := by exact fun _ _ => rfl) : PE X (.Subscript a b pos) (tE G W (mOp dDGet ma mb)) :=
  PE.imp (pe_dget (by omega) ha hb hs) fun σ H Q ⟨et, env, h, hE, hH, hP⟩ => by
    refine ⟨et, env, h, hE, hH, (Pst.of_bind hP).imp fun et1 H1 h1 x p e hr q v hv => ?_⟩
    refine ⟨et1, env, h1, hE.mono p e, hr, (Pst.of_bind q).imp fun et2 H2 h2 y p2 e2 hr2 q2 w hw => ?_⟩
    unfold dDGet at q2
    split at q2
    · rename_i d ed
      obtain ⟨a, u, rfl, g, hd⟩ := dget_of hr2 ed (hv.mono p2 e2) hw
      cases u with
      | none => exact hd.elim
      | some z => exact ⟨a, z, rfl, g, q2.here hr2 _ hd⟩
    · exact q2.elim
/-- d.get(k) -/
def dDGet1 : D → D → IH → R D := fun o i h => match dGet? h o i with
  | some r => .ok (r.getD .non) h
  | none => .no
def isDD (h : IH) : D → Bool
  | .ref n => match h[n]? with
    | some (.dk _) => true
    | some (.dt _) => true
    | _ => false
  | _ => false
theorem isDD_ok {et : List Addr} {H : Hp} {h : IH} (R : HRel G et h H) {d : D} {v : V} (e : isDD h d = true) (r : Den G et H d v) : ∃ a, v = .ref a ∧ IsD H a := by
  cases d with
  | ref n =>
    obtain ⟨a, h1, rfl⟩ := den_ref.mp r
    simp only [isDD] at e
    split at e
    · rename_i kvs hc
      obtain ⟨ws, c1, c2⟩ := R.cell n _ a hc h1
      exact ⟨a, rfl, .inl ⟨ws, .inl c1⟩⟩
    · rename_i kvs hc
      obtain ⟨ws, c1, c2⟩ := R.cell n _ a hc h1
      exact ⟨a, rfl, .inr ⟨ws, .inl c1⟩⟩
    · cases e
  | _ => cases e
def mDGet1 (mo mi : ME) : ME := fun env h => (mo env h).bind fun x h1 => if isDD h1 x = true then (mi env h1).bind fun y h2 => dDGet1 x y h2 else .no
theorem me_dget1 {o e : Expr} {mo mi : ME} {apos cpos : Pos} (hu : X.A.units + 64 < cLine) (ho : PE X o (tE G W mo)) (he : PE X e (tE G W mi)) (m : M1 X o "get" apos e cpos := by exact ⟨rfl, rfl, rfl, rfl⟩) : PE X (.Call (.Attribute o "get" apos) [e] [] cpos) (tE G W (mDGet1 mo mi)) :=
  PE.imp (pe_dget1 (by omega) ho he m) fun σ H Q ⟨et, env, h, hE, hH, hP⟩ => by
    refine ⟨et, env, h, hE, hH, (Pst.of_bind hP).imp fun et1 H1 h1 x p e hr q v hv => ?_⟩
    split at q
    · rename_i c
      obtain ⟨a, rfl, hd⟩ := isDD_ok hr c hv
      refine ⟨a, rfl, hd, et1, env, h1, hE.mono p e, hr, (Pst.of_bind q).imp fun et2 H2 h2 y p2 e2 hr2 q2 w hw => ?_⟩
      unfold dDGet1 at q2
      split at q2
      · rename_i r ed
        obtain ⟨b, u, eb, g, hd⟩ := dget_of hr2 ed (hv.mono p2 e2) hw
        cases eb
        refine ⟨u, g, q2.here hr2 _ ?_⟩
        cases u <;> cases r <;> first | exact hd.elim | skip
        · simp
        · exact hd
      · exact q2.elim
    · exact q.elim
/-- d[k] = v -/
def putDD (o i v : D) (h : IH) : Option IH := match o with
  | .ref n => match h[n]? with
    | some (.dk kvs) => match keyD? i with
      | some k => if kvs.length < 10000000 then some (h.set n (.dk (putKD kvs k v))) else none
      | none => none
    | some (.dt kvs) => match keyT? i with
      | some k => if kvs.length < 10000000 then some (h.set n (.dt (putKD kvs k v))) else none
      | none => none
    | _ => none
  | _ => none
def rSetD : V → V → V → Hp → (Hp → Prop) → Prop := fun o i v H Q => ∃ a H', o = .ref a ∧ DPut H a i v H' ∧ Q H'
theorem set_dict (hu : X.A.units + 64 < cLine) : PSet X rSetD := by
  intro pins s σ H o i v ov iv u Q I ro ri rv h
  obtain ⟨a, H', rfl, g, q⟩ := h
  obtain rfl : ov = Value.ref a := ro
  exact d_setItem (by omega) I g ri rv fun s4 I4 => ⟨H', I4, q⟩
theorem putDD_ok {et : List Addr} {H : Hp} {h h' : IH} (R : HRel G et h H) {o i v : D} {vo vi vv : V} {Q : Hp → Prop} (e : putDD o i v h = some h') (ro : Den G et H o vo) (ri : Den G et H i vi) (rv : Den G et H v vv) (q : ∀ H', Ext H H' → HRel G et h' H' → Q H') : rSetD vo vi vv H Q := by
  cases o with
  | ref n =>
    obtain ⟨a, h1, rfl⟩ := den_ref.mp ro
    simp only [putDD] at e
    split at e
    · rename_i kvs hc
      split at e
      · rename_i k ek
        split at e
        · rename_i l
          cases e
          obtain ⟨ws, c1, c2⟩ := R.cell n _ a hc h1
          rw [key_den ek ri]
          have lw : ws.length = kvs.length := by have := congrArg List.length c2.1; simpa using this
          have ex : Ext H (upd H a (.dK (putK ws (keyV k) vv))) := Ext.mut c1 True.intro
          refine ⟨a, _, rfl, DPut.k c1 (by rw [lw, sizeLine_eq]; omega), q _ ex (R.set hc h1 rfl c1 True.intro ⟨_, upd_same, (denK_put (fun a b => keyV_inj) rv c2).mono List.prefix_rfl ex⟩)⟩
        · cases e
      · cases e
    · rename_i kvs hc
      split at e
      · rename_i k ek
        split at e
        · rename_i l
          cases e
          obtain ⟨ws, c1, c2⟩ := R.cell n _ a hc h1
          cases i with
          | tup t =>
            obtain ⟨b, vs, rfl, t1, t2⟩ := den_tup.mp ri
            have ek := keys_den (show allM keyD? t = some k from ek) t2
            subst ek
            have lw : ws.length = kvs.length := by have := congrArg List.length c2.1; simpa using this
            have ex : Ext H (upd H a (.dT (putK ws (k.map keyV) vv))) := Ext.mut c1 True.intro
            refine ⟨a, _, rfl, DPut.t c1 t1 (by rw [lw, sizeLine_eq]; omega), q _ ex (R.set hc h1 rfl c1 True.intro ⟨_, upd_same, (denK_put (fun a b => keyVs_inj) rv c2).mono List.prefix_rfl ex⟩)⟩
          | _ => cases ek
        · cases e
      · cases e
    · cases e
  | _ => cases e
def msSetD (mo mi me : ME) : MS := fun env h => (me env h).bindS env fun v h1 => (mo env h1).bindS env fun o h2 => (mi env h2).bindS env fun i h3 => match putDD o i v h3 with
  | some h4 => .nx env h4
  | none => .no
theorem ms_setD {e o i : Expr} {me mo mi : ME} {pos pos' : Pos} (hu : X.A.units + 64 < cLine) (he : PE X e (tE G W me)) (ho : PE X o (tE G W mo)) (hi : PE X i (tE G W mi)) (ha : ∀ v, assign (.Subscript o i pos') X.env v = (do
      let ov ← holding [v] (eval o X.env)
      let iv ← holding [v, ov] (eval i X.env)
      standAt pos'
      holding [v, ov, iv] (setItem ov iv v)
      release [v, ov, iv] []) := by intro _; rfl) (hs : swapsWithSole [.Subscript o i pos'] e pos.line X.env = pure false := by rfl) (hw : swappedStores [.Subscript o i pos'] e X.env = pure none := by rfl)
    (h1 : (assignEach [.Subscript o i pos'] X.env).map (·.2) = [assign (.Subscript o i pos') X.env] := by rfl) : PS X (.Assign [.Subscript o i pos'] e pos) (tS G W (msSetD mo mi me)) :=
  PS.imp (ps_asg he (pg_sub ho hi (set_dict hu) ha) hs hw h1) fun D σ H ⟨et, env, h, hE, hH, hP⟩ => by
    refine ⟨et, env, h, hE, hH, (PstS.of_bind hE hP).imp fun et1 H1 h1 v p e hr q vv hv => ?_⟩
    have hE1 := hE.mono p e
    refine ⟨et1, env, h1, hE1, hr, (PstS.of_bind hE1 q).imp fun et2 H2 h2 o p2 e2 hr2 q2 vo ho => ?_⟩
    have hE2 := hE1.mono p2 e2
    refine ⟨et2, env, h2, hE2, hr2, (PstS.of_bind hE2 q2).imp fun et3 H3 h3 i p3 e3 hr3 q3 vi hi => ?_⟩
    have hE3 := hE2.mono p3 e3
    split at q3
    · rename_i h4 e4
      exact putDD_ok hr3 e4 (ho.mono p3 e3) hi ((hv.mono p2 e2).mono p3 e3) fun H' ex hr4 => q3 et3 H' σ List.prefix_rfl ex hr4 (hE3.mono List.prefix_rfl ex)
    · exact q3.elim
/-- an empty dict with tuples as keys -/
def mDictT : ME := fun _ h => .ok (.ref h.length) (h ++ [.dt []])
theorem me_dict0T {pos : Pos} : PE X (.Dict [] [] pos) (tE G W mDictT) := PE.imp pe_dnewT fun σ H Q ⟨et, env, h, hE, hH, hP⟩ p hp => by
  have hH1 : HRel G (et ++ [p]) (h ++ [.dt []]) (upd H p (.dT [])) := hH.push hp ⟨[], upd_same, rfl, by simp⟩
  refine hP (et ++ [p]) _ (List.prefix_append _ _) (Ext.new hp) hH1 _ (den_ref.mpr ⟨p, ?_, rfl⟩)
  rw [← hH.len]
  simp
end
end NR

set_option Elab.async false
set_option linter.all false
set_option maxRecDepth 100000
set_option maxHeartbeats 1000000
/-! More sources, more operators. -/
namespace NR
open PySem PySem.Spec PyProof.Rows L2
/-! ### ranges downwards -/
def intsDown (hi : Int) (n : Nat) : List D := (List.range n).map fun i => .int (hi - (i : Nat))
def iRange3 (m : MA) : MI := fun env h => (m env h).bind fun xs h1 => match xs with
  | [.int i, .int j, .int c] => if c = -1 ∧ -10000000 ≤ i ∧ i ≤ 10000000 ∧ -10000000 ≤ j ∧ j ≤ 10000000 then .ok (.st (intsDown i (i - j).toNat)) h1 else .no
  | _ => .no
theorem down_get (hi : Int) (n i : Nat) : (intsDown hi n)[i]? = if i < n then some (.int (hi - (i : Nat))) else none := by
  unfold intsDown
  rw [List.getElem?_map]
  by_cases h : i < n
  · rw [if_pos h, List.getElem?_range h]
    rfl
  · rw [if_neg h, List.getElem?_eq_none (by simpa using h)]
    rfl
section
variable {X : Cx} {G : Cf} {W : WX} {e tg : Expr} {es : List Expr} {me : ME} {mt : MA} {pos p : Pos}
theorem jrel_down {et : List Addr} {H : Hp} {hi : Int} {n : Nat} : JRel G et H (.st (intsDown hi n)) (Itc hi (-1) n) := jrel_st fun et1 H1 h1 p ex R i => by
  rw [down_get]
  by_cases h : i < n
  · rw [if_pos h]
    refine ⟨h, fun x H' ⟨hH, hx⟩ => ?_⟩
    rw [hH, hx]
    refine ⟨Ext.refl _, R, ?_⟩
    rw [den_int]
    congr 1
    omega
  · rw [if_neg h]
    show n ≤ i
    omega
theorem list3 {et : List Addr} {H : Hp} {a b c : D} {vs : List V} (h : DenL G et H [a, b, c] vs) : ∃ x y z, vs = [x, y, z] ∧ Den G et H a x ∧ Den G et H b y ∧ Den G et H c z := by
  obtain ⟨x, v1, rfl, h1, k⟩ := denL_cons.mp h
  obtain ⟨y, v2, rfl, h2, k⟩ := denL_cons.mp k
  obtain ⟨z, v3, rfl, h3, k⟩ := denL_cons.mp k
  rw [denL_nil.mp k]
  exact ⟨x, y, z, rfl, h1, h2, h3⟩
theorem mi_range3 {a b c : Expr} (ha : PA X [a, b, c] (tA G W mt)) (hm : X.mg "range" = none) (hg : Gl X "range" := by rfl) (hs : starEach [a, b, c] X.env = (false, eval a X.env) :: starEach [b, c] X.env := by rfl) (hpl : (backTo pos (starEach [b, c] X.env)).any (·.1) = false := by rfl) : PI X tg (.Call (.Name "range" p) [a, b, c] [] pos) (tI G W (iRange3 mt)) :=
  PI.imp (pi_range3 hg hm ha hs hpl) fun σ H R ⟨et, env, h, hE, hH, hP⟩ => by
    refine ⟨et, env, h, hE, hH, (Pst.of_bind hP).imp fun et1 H1 h1 xs p e hr q vs hv => ?_⟩
    split at q
    · split at q
      · rename_i i j k c
        obtain ⟨v, w, u, rfl, r1, r2, r3⟩ := list3 hv
        obtain ⟨rfl, c1, c2, c3, c4⟩ := c
        exact ⟨i, j, -1, _, by rw [den_int.mp r1, den_int.mp r2, den_int.mp r3], RgC.neg (by omega) (by omega) (by omega) (by omega), q.here hr _ jrel_down⟩
      · exact q.elim
    · exact q.elim
end
end NR

set_option Elab.async false
set_option linter.all false
set_option maxRecDepth 100000
/-! Lists compared by < -/
namespace NR
open PySem PySem.Spec PyProof.Rows L2
def rLtL (K : PySem.W.Frag) : R2 := fun x y H Q => ∃ d e, Dp K H x d ∧ Dp K H y e ∧ PySem.W.alike d e = true ∧ d ≠ .none ∧ d.depth ≤ 50 ∧ Q (.bl (PySem.W.dataLt d e)) H
theorem op_ltL {X : Cx} (hu : X.A.units + 64 < cLine) : OpR X (compareOp .Lt) (rLtL X.K) := by
  intro pins s σ H x y v u Q I rx ry h
  obtain ⟨d, e, hd, he, al, dn, dd, q⟩ := h
  obtain ⟨as, r1⟩ := Dp.reads I d x v hd rx
  obtain ⟨bs, r2⟩ := Dp.reads I e y u he ry
  exact PySem.W.lt_data r1 r2 al dn (by omega) ⟨.bl _, H, I, rfl, q⟩
def dLtL : D → D → IH → R D := fun x y h => match D.py h 50 x, D.py h 50 y with
  | some (.list a), some (.list b) => if PySem.W.alike (.list a) (.list b) = true then .ok (.bl (PySem.W.dataLt (.list a) (.list b))) h else .no
  | _, _ => .no
theorem dLtL_ok {X : Cx} {G : Cf} (hK : X.K = G.K) : OpS G (rLtL X.K) dLtL := by
  intro et H h x y v w W Q rx ry R p
  unfold dLtL at p
  split at p
  · rename_i d1 d2 e1 e2
    split at p
    · rename_i al
      obtain ⟨a1, a2, a3⟩ := py_ok R 50 x v _ e1 rx
      obtain ⟨b1, b2, b3⟩ := py_ok R 50 y w _ e2 ry
      rw [hK]
      exact ⟨_, _, a1, b1, al, by simp, a3, p.here R _ (by simp)⟩
    · exact p.elim
  · exact p.elim
theorem lt_toks : ∀ (ns ms : List Int), PyProof.Rows.lexLt PyProof.Rows.itemOrd (PySem.W.keyToksAll (ns.map PyData.int)) (PySem.W.keyToksAll (ms.map PyData.int)) = HT.lexLt ns ms
  | [], [] => rfl
  | [], m :: ms => rfl
  | n :: ns, [] => rfl
  | n :: ns, m :: ms => by
    rw [List.map_cons, List.map_cons, PySem.W.keyToksAll, PySem.W.keyToksAll, PyProof.Rows.lex_self, PySem.W.keyToks, PySem.W.keyToks]
    show PyProof.Rows.lexLt PyProof.Rows.itemOrd (.inl n :: _) (.inl m :: _) = _
    unfold HT.lexLt
    by_cases e : n = m
    · subst e
      rw [PyProof.Rows.lex_self, if_pos rfl]
      exact lt_toks ns ms
    · rw [if_neg e]
      exact PyProof.Rows.lex_diff (O := PyProof.Rows.itemOrd) (x := Sum.inl n) (y := Sum.inl m) (by intro z; injection z with z; exact e z)
theorem alike_ints : ∀ (ns ms : List Int), PySem.W.alikeAll (ns.map PyData.int) (ms.map PyData.int) = true
  | [], _ => by simp [PySem.W.alikeAll]
  | n :: ns, [] => by simp [PySem.W.alikeAll]
  | n :: ns, m :: ms => by simp [PySem.W.alikeAll, PySem.W.alike, alike_ints ns ms]
theorem py_ints {h : IH} {k : Nat} : ∀ (ns : List Int), allM (D.py h (k + 1)) (ns.map D.int) = some (ns.map PyData.int)
  | [] => rfl
  | n :: ns => by
    rw [List.map_cons, allM, py_ints ns]
    rfl
theorem dLtL_ints {ns ms : List Int} {h : IH} : dLtL (.fl (ns.map D.int)) (.fl (ms.map D.int)) h = .ok (.bl (HT.lexLt ns ms)) h := by
  have e1 : ∀ xs : List Int, D.py h 50 (.fl (xs.map D.int)) = some (.list (xs.map PyData.int)) := fun xs => by
    show (allM (D.py h 49) (xs.map D.int)).map PyData.list = _
    rw [py_ints (k := 48)]
    rfl
  unfold dLtL
  rw [e1, e1]
  dsimp only
  have al : PySem.W.alike (.list (ns.map PyData.int)) (.list (ms.map PyData.int)) = true := by
    unfold PySem.W.alike
    exact alike_ints ns ms
  rw [if_pos al]
  unfold PySem.W.dataLt
  rw [PySem.W.keyToks, PySem.W.keyToks, lt_toks]
end NR

set_option Elab.async false
set_option linter.all false
set_option maxRecDepth 100000
/-! rfind and split of one sign; the place of a datum in a list. -/
namespace NR
open PySem PySem.Spec PyProof.Rows L2
def lstI (c : Nat) : List Nat → Option Nat
  | [] => none
  | d :: s => match lstI c s with
    | some i => some (i + 1)
    | none => if d = c then some 0 else none
theorem lstI_none {c : Nat} : ∀ {s : List Nat}, lstI c s = none ↔ ∀ k : Nat, s[k]? ≠ some c
  | [] => by simp [lstI]
  | d :: s => by
    unfold lstI
    constructor
    · intro h k
      cases e : lstI c s with
      | some i => rw [e] at h; cases h
      | none =>
        rw [e] at h
        by_cases q : d = c
        · simp [q] at h
        · cases k with
          | zero => simpa using q
          | succ k => simpa using lstI_none.mp e k
    · intro h
      have : lstI c s = none := lstI_none.mpr fun k => by simpa using h (k + 1)
      rw [this]
      have := h 0
      simp at this
      simp [this]
theorem lstI_some {c : Nat} : ∀ {s : List Nat} {i : Nat}, s[i]? = some c → (∀ k : Nat, i < k → s[k]? ≠ some c) → lstI c s = some i
  | [], i, h, _ => by simp at h
  | d :: s, 0, h, n => by
    have : lstI c s = none := lstI_none.mpr fun k => by simpa using n (k + 1) (by omega)
    unfold lstI
    rw [this]
    simp at h
    simp [h]
  | d :: s, i + 1, h, n => by
    have := lstI_some (s := s) (i := i) (by simpa using h) fun k hk => by simpa using n (k + 1) (by omega)
    unfold lstI
    rw [this]
def rfI (c : Nat) (s : List Nat) : Int := match lstI c s with
  | some i => (i : Int)
  | none => -1
open Builtin.Str StrLaws in
theorem rfind_one (s : List Nat) (c : Nat) : Txt.rfind (strV s) (strV [c]) = rfI c s := by
  have at_ : ∀ i, At (strV s) (strV [c]) (strV s).length i ↔ s[i]? = some c := fun i => by
    have := subAt_one (strV s) c i
    simpa [strV, At] using this
  unfold Txt.rfind rfI
  rcases last_spec (strV s) (strV [c]) with ⟨h1, h2⟩ | ⟨i, h1, h2, h3⟩
  · rw [h1, lstI_none.mpr fun k z => h2 k ((at_ k).mpr z)]
  · rw [h1, lstI_some ((at_ i).mp h2) fun k hk z => h3 k hk ((at_ k).mpr z)]
/-- the parts between -/
def spl1 (c : Nat) : List Nat → List (List Nat)
  | [] => [[]]
  | d :: s => if d = c then [] :: spl1 c s else match spl1 c s with
    | w :: r => (d :: w) :: r
    | [] => [[d]]
theorem spl1_ne (c : Nat) : ∀ s, ∃ w r, spl1 c s = w :: r
  | [] => ⟨[], [], rfl⟩
  | d :: s => by
    obtain ⟨w, r, e⟩ := spl1_ne c s
    unfold spl1
    rw [e]
    by_cases q : d = c
    · exact ⟨[], w :: r, by simp [q]⟩
    · exact ⟨d :: w, r, by simp [q]⟩
def fRfind : D → List D → IH → R D
  | .str s, [.str [c]], h => .ok (.int (rfI c s)) h
  | _, _, _ => .no
def fSplit : D → List D → IH → R D
  | .str s, [.str [c]], h => if c < 256 ∧ s.length ≤ 1000000 then .ok (.ref h.length) (h ++ [.lst ((spl1 c s).map D.str)]) else .no
  | _, _, _ => .no
def fIndexD : D → List D → IH → R D
  | x, [y], h => match D.py h 50 x, D.py h 49 y with
    | some (.list ds), some d => if SeqAt.shaped (.list ds) = true ∧ SeqAt.shaped d = true then (match ds.findIdx? (fun z => PyData.eqv z d) with
      | some j => .ok (.int (j : Nat)) h
      | none => .no) else .no
    | _, _ => .no
  | _, _, _ => .no
theorem spl_spl1 (c : Nat) : ∀ (s acc : List Nat), TL.spl [c] 0 acc s = match spl1 c s with
    | w :: r => (acc ++ w) :: r
    | [] => [acc]
  | [], acc => by simp [TL.spl, spl1]
  | d :: s, acc => by
    obtain ⟨w, r, e⟩ := spl1_ne c s
    unfold TL.spl spl1
    have pe : TL.pre [c] (d :: s) = decide (d = c) := by
      unfold TL.pre
      by_cases q : d = c <;> simp [q]
    rw [pe]
    by_cases q : d = c
    · rw [if_pos (by simpa using q), if_pos q]
      show acc :: TL.spl [c] 0 [] s = _
      rw [spl_spl1 c s [], e]
      simp
    · rw [if_neg (by simpa using q), if_neg q, spl_spl1 c s (acc ++ [d]), e]
      simp
theorem split_one (s : List Nat) (c : Nat) (hc : c < 256) : Txt.split (strV s) (strV [c]) = (spl1 c s).map strV := by
  apply TL.map_tl_inj
  rw [TL.split_spl (strV s) (strV [c]) (by simp [TL.tl, strV]) (TL.kind_ok (by simp [strV, hc]))]
  rw [List.map_map]
  have e1 : TL.tl (strV [c]) = [c] := rfl
  have e2 : TL.tl (strV s) = s := rfl
  rw [e1, e2, spl_spl1]
  obtain ⟨w, r, e⟩ := spl1_ne c s
  rw [e]
  have : (TL.tl ∘ strV) = id := by funext l; rfl
  rw [this, List.map_id]
  rfl
theorem units65 {k : Nat} {A : Around} (r : Room k A) : A.units + 65 < cLine := by have := r.un; have := r.units; unfold cLine at *; omega
section
variable {G : Cf}
theorem fRfind_ok : MethS G (fun x xs H Q => ∃ a b, x = .str a ∧ xs = [.str b] ∧ Q (.int (Txt.rfind a b)) H) fRfind := by
  intro et H h x v xs vs W Q rx rv R p
  unfold fRfind at p
  split at p
  · obtain ⟨w, rfl, r⟩ := list1 rv
    exact ⟨_, _, den_str.mp rx, by rw [den_str.mp r], p.here R _ (by rw [rfind_one]; simp)⟩
  · exact p.elim
theorem fSplit_ok : MethS G (fun x xs H Q => ∃ a b, x = .str a ∧ xs = [.str b] ∧ (b.length == 0) = false ∧ a.length + 2 ≤ sizeLine ∧ rNewStrs (Txt.split a b) H Q) fSplit := by
  intro et H h x v xs vs W Q rx rv R p
  unfold fSplit at p
  split at p
  · rename_i s c
    split at p
    · rename_i q
      obtain ⟨w, rfl, r⟩ := list1 rv
      refine ⟨_, _, den_str.mp rx, by rw [den_str.mp r], rfl, ?_, ?_⟩
      · rw [strV_length, sizeLine_eq]; omega
      · rw [split_one s c q.1]
        exact fun a ha => p.newL R DenL.ofStrs a ha
    · exact p.elim
  · exact p.elim
theorem fIndexD_ok : MethS G (rIndexD G.K) fIndexD := by
  intro et H h x v xs vs W Q rx rv R p
  unfold fIndexD at p
  split at p
  · rename_i y
    split at p
    · rename_i d1 d2 e1 e2
      split at p
      · rename_i q
        split at p
        · rename_i j ej
          obtain ⟨w, rfl, r⟩ := list1 rv
          obtain ⟨a1, a2, a3⟩ := py_ok R 50 x v _ e1 rx
          obtain ⟨b1, b2, b3⟩ := py_ok R 49 y w _ e2 r
          rw [List.findIdx?_eq_some_iff_getElem] at ej
          obtain ⟨hj, h1, h2⟩ := ej
          cases a1 with
          | lst hs ha =>
            exact ⟨_, w, d2, d1, j, d1[j], rfl, rfl, .lst hs ha, b1, q.1, q.2, List.getElem?_eq_getElem hj, h1, fun m z' hm hz => by
              obtain ⟨hm', ez⟩ := List.getElem?_eq_some_iff.mp hz
              subst ez
              simpa using h2 m hm, p.here R _ (by simp)⟩
        · exact p.elim
      · exact p.elim
    · exact p.elim
  · exact p.elim
end
theorem mt_w {X : Cx} {e : Expr} {w : TT} (h : PW X e w) : PT X e w := h.pt
section
open PySem.AutoSeq1 (wpAny_loadPart' sub_tuple_tuple sub_list_list sub_tuple_list sub_list_tuple idx_int)
open PySem.MeetsSeq PySem.MeetsSeq2 PySem.MeetsSeq3
theorem ext_tup (l b : Addr) (xs ys : Array Value) (n m : Nat) (dd : Option Addr) (sl : Array (Option Value)) (h0 : ¬(!xs.isEmpty && Builtin.List.listTooLong (xs.size + ys.size)) = true) (h1 : xs.size ≤ sizeLine) (h2 : xs.size + ys.size ≤ sizeLine + 1) :
    Meets (Builtin.«list.extend» ⟨[.ref l, .ref b], []⟩) (fun _ R s => s.heap.get? l = some { cls := .type "list", dict := none, data := .seq xs n, slots := #[] } ∧ s.heap.get? b = some { cls := .type "tuple", dict := dd, data := .seq ys m, slots := sl } ∧
      R (.ok (.ret Value.none)) { s with heap := s.heap.update l (Obj.mapSeq fun x => x ++ ys), toks := s.toks }) :=
  .of_wp fun prog w A R s h => by
    obtain ⟨hp, gl, ds, tk, os⟩ := s
    obtain ⟨hl, hb, h⟩ := h
    have t1 := PySem.AutoSeq1.idx_int
    have t2 := PySem.AutoSeq1.sub_tuple_tuple
    have t3 := PySem.AutoSeq1.sub_list_list
    have t4 := PySem.AutoSeq1.sub_tuple_list
    have t5 := PySem.AutoSeq1.sub_list_tuple
    have hz' : (xs ++ ys).size ≤ sizeLine + 1 := by rw [Array.size_append]; exact h2
    wp_walk using (wpAny_updateSeq hl rfl (hz := h1) (_hz' := hz')), wpAny_loadPart' hl, wpAny_loadPart' hb
    exact ⟨_, rfl, h⟩
end
def rExtendT (K : PySem.W.Frag) : V → List V → Hp → VK → Prop := fun x vs H Q => ∃ l b xs zs, x = .ref l ∧ vs = [.ref b] ∧ H l = some (.lst xs) ∧ SqT K H b zs ∧ xs.length + zs.length ≤ sizeLine ∧ Q .non (upd H l (.lst (xs ++ zs)))
theorem mt_extendT {X : Cx} : MtM X "list.extend" (rExtendT X.K) := by
  intro pins s σ H x vs v us Q I rx rv h
  obtain ⟨l, b, xs, zs, rfl, rfl, hH, hB, hz, q⟩ := h
  cases rx
  obtain ⟨u, rfl, ru⟩ := rv.one
  cases ru
  obtain ⟨z, its, n, r, hl, e⟩ := I.lstM hH
  obtain ⟨its2, r2, ⟨⟨cls2, dd2, data2, sl2⟩, e2, hc2, n2, hd2⟩, _⟩ := I.tuple hB
  simp only at hc2 hd2
  subst hc2 hd2
  have hl2 := r2.length
  have k1 : its.toArray.size + its2.toArray.size ≤ sizeLine := by rw [List.size_toArray, List.size_toArray]; omega
  have k2 : ¬ (!its.toArray.isEmpty && Builtin.List.listTooLong (its.toArray.size + its2.toArray.size)) = true := by
    rw [notLongL k1, Bool.and_false]
    simp
  refine call_meets F.slot_list_extend ⟨_, e, rfl⟩ F.entry_list_extend (F.args_list_extend_2 _ _) (ext_tup l b its.toArray its2.toArray n n2 dd2 sl2 k2 (by rw [List.size_toArray]; omega) (by omega)) ⟨e, e2, ?_⟩
  refine ⟨.non, _, I.lset (its' := its ++ its2) hH e (by simp) (r.append r2) ?_, rfl, q⟩
  rw [List.length_append]
  omega
def fExtendT : D → List D → IH → R D
  | .ref n, [.tup ys], h => match h[n]? with
    | some (.lst xs) => if xs.length + ys.length ≤ 10000000 then .ok .non (h.set n (.lst (xs ++ ys))) else .no
    | _ => .no
  | _, _, _ => .no
theorem fExtendT_ok {G : Cf} : MethS G (rExtendT G.K) fExtendT := by
  intro et H h x v xs vs W Q rx rv R p
  unfold fExtendT at p
  split at p
  · split at p
    · split at p
      · rename_i n ys _ xs' hx c
        obtain ⟨w, rfl, h1⟩ := list1 rv
        obtain ⟨a, us, h2, rfl, h3, h4⟩ := den_list R hx rx
        obtain ⟨b, ws, rfl, k3, k4⟩ := den_tup.mp h1
        refine ⟨a, b, us, ws, rfl, rfl, h3, k3.sq, sz (by rw [h4.len, k4.len]; exact c), ?_⟩
        have ex : Ext H (upd H a (.lst (us ++ ws))) := Ext.mut h3 True.intro
        exact p et _ List.prefix_rfl ex (R.set hx h2 rfl h3 True.intro ⟨_, upd_same, (h4.app k4).mono List.prefix_rfl ex⟩) _ (by simp)
      · exact p.elim
    · exact p.elim
  · exact p.elim
end NR

set_option Elab.async false
set_option linter.all false
set_option maxRecDepth 100000
set_option maxHeartbeats 4000000
namespace NR
open PySem PySem.Spec PyProof.Rows L2
/-! ### isinstance of several -/
def isTs (h : IH) (x : D) : List String → Option Bool
  | [] => some false
  | T :: r => match isT T h x with
    | some true => some true
    | some false => isTs h x r
    | none => none
def mIsT (Ts : List String) (m : ME) : ME := fun env h => (m env h).bind fun x h1 => match isTs h1 x Ts with
  | some b => .ok (.bl b) h1
  | none => .no
theorem tyK_ok {G : Cf} {et : List Addr} {H : Hp} {h : IH} (R : HRel G et h H) {x : D} {v : V} (r : Den G et H x v) : (∃ t, TyX G.K H v t ∧ ∀ (T : String) (b : Bool), isT T h x = some b → PySem.W.kitOne G.K t (.type T) = some b) ∨ ∀ T, isT T h x = none := by
  cases x with
  | non => rw [den_non.mp r]; exact .inl ⟨_, .base .non, fun _ _ e => kit_ty e⟩
  | bl _ => rw [den_bl.mp r]; exact .inl ⟨_, .base (.bl _), fun _ _ e => kit_ty e⟩
  | int _ => rw [den_int.mp r]; exact .inl ⟨_, .base (.int _), fun _ _ e => kit_ty e⟩
  | str _ => rw [den_str.mp r]; exact .inl ⟨_, .base (.str _), fun _ _ e => kit_ty e⟩
  | tup l =>
    obtain ⟨a, vs, rfl, h1, _⟩ := den_tup.mp r
    exact .inl ⟨_, sqT_ty (TpT.sq h1), fun _ _ e => kit_ty e⟩
  | ref n =>
    obtain ⟨a, h1, rfl⟩ := den_ref.mp r
    obtain ⟨c, hc, ok⟩ := R.cellAt h1
    cases c with
    | lst xs =>
      obtain ⟨vs, h2, _⟩ := ok
      exact .inl ⟨_, .base (.lst h2), fun T b e => kit_ty (by simpa only [isT, hc] using e)⟩
    | frz xs =>
      obtain ⟨vs, h2, _⟩ := ok
      exact .inl ⟨_, frzL_ty h2, fun T b e => kit_ty (by simpa only [isT, hc] using e)⟩
    | dk xs =>
      obtain ⟨vs, h2, _⟩ := ok
      exact .inl ⟨_, .base (.dK h2), fun T b e => kit_ty (by simpa only [isT, hc] using e)⟩
    | dt xs => exact .inr fun T => by simp only [isT, hc]
    | ins c fs => exact .inr fun T => by simp only [isT, hc]
  | fl l =>
    obtain ⟨a, vs, rfl, h1, _⟩ := den_fl.mp r
    exact .inl ⟨_, frzL_ty (K := G.K) h1.frz, fun _ _ e => kit_ty e⟩
  | fd ks l =>
    obtain ⟨a, ws, rfl, ⟨o, h1⟩, _⟩ := den_fd.mp r
    exact .inl ⟨_, .fDict h1, fun _ _ e => kit_ty e⟩
  | exc a => exact .inr fun T => rfl
theorem kits_of {K : PySem.W.Frag} {h : IH} {x : D} {t : Value} (k : ∀ (T : String) (b : Bool), isT T h x = some b → PySem.W.kitOne K t (.type T) = some b) : ∀ {Ts : List String} {b : Bool}, isTs h x Ts = some b → PySem.W.kitAny K t (Ts.map Value.type) = some b
  | [], b, e => by rw [← e]; rfl
  | T :: r, b, e => by
    unfold isTs at e
    rw [List.map_cons]
    cases h1 : isT T h x with
    | none => rw [h1] at e; cases e
    | some c =>
      rw [h1] at e
      cases c with
      | true => cases e; exact kitAny_cons (k T true h1) (fun z => by cases z) (fun _ => rfl)
      | false => exact kitAny_cons (k T false h1) (fun _ => kits_of k e) (fun z => by cases z)
inductive TNs (X : Cx) : List String → List Expr → Prop
  | nil : TNs X [] []
  | cons {y : Str} {T : String} {Ts : List String} {es : List Expr} {p : Pos} (hg : Gl X y) (hm : X.mg y = none) (hv : bootBuiltins y = some (.type T)) (hn : y ≠ "__name__") (hd : (y == ("__debug__" : Str)) = false) (h : TNs X Ts es) : TNs X (T :: Ts) (.Name y p :: es)
theorem TNs.pa {X : Cx} : ∀ {Ts : List String} {es : List Expr}, TNs X Ts es → PA X es (fun _ H Q => Q (Ts.map V.ty) H)
  | [], _, .nil => pa_nil
  | T :: Ts, _, .cons (y := y) (es := es) (p := p) hg hm hv hn hd h => pa_cons (pe_bltn (v := .ty T) hg hm hv rfl hn hd) h.pa rfl
theorem paired_tys : ∀ Ts : List String, Paired ClsV (Ts.map V.ty) (Ts.map Value.type)
  | [] => .nil
  | T :: Ts => .cons (.ty T) (paired_tys Ts)
theorem me_isT {X : Cx} {G : Cf} {W : WX} {a : Expr} {ma : ME} {pos p p2 : Pos} {T : String} {Ts : List String} {es : List Expr} {k : Nat} (hK : X.K = G.K) (ha : PE X a (tE G W ma)) (hm : X.mg "isinstance" = none) (hy : TNs X (T :: Ts) es) (hl : (T :: Ts).length ≤ 1000 := by decide) (hv : bootBuiltins "isinstance" = some (.builtin "isinstance") := by decide +kernel) (hg : Gl X "isinstance" := by rfl)
    (hs1 : starEach [a, .Tuple es k p2] X.env = (false, eval a X.env) :: starEach [.Tuple es k p2] X.env := by rfl) (hs2 : starEach [.Tuple es k p2] X.env = (false, eval (.Tuple es k p2) X.env) :: starEach [] X.env := by rfl) (hpl : (backTo pos (starEach [.Tuple es k p2] X.env)).any (·.1) = false := by rfl) :
    PE X (.Call (.Name "isinstance" p) [a, .Tuple es k p2] [] pos) (tE G W (mIsT (T :: Ts) ma)) :=
  PE.imp (pe_callB call_isiT hg hm hv (pa_cons ha (pa_cons (pe_tup hy.pa) pa_nil hs2) hs1) (by decide) (by decide) hs1 hpl) fun σ H Q ⟨et, env, h, hE, hH, hP⟩ => by
    refine ⟨et, env, h, hE, hH, (Pst.of_bind hP).imp fun et1 H1 h1 x p e hr q v hv => ?_⟩
    split at q
    · rename_i b hb
      refine ⟨sz (by rw [List.length_map]; exact Nat.le_trans hl (by omega)), fun tp htp => ?_⟩
      have e1 := Ext.new (o := .tup ((T :: Ts).map V.ty)) htp
      have hv2 := hv.mono List.prefix_rfl e1
      have hr2 := hr.new (o := .tup ((T :: Ts).map V.ty)) htp
      rcases tyK_ok hr2 hv2 with ⟨t, h2, h3⟩ | h2
      · rw [hK]
        exact ⟨v, tp, _, t, _, b, rfl, upd_same, paired_tys (T :: Ts), h2, kits_of h3 hb, q et1 _ List.prefix_rfl e1 hr2 _ (by simp)⟩
      · unfold isTs at hb
        rw [h2 T] at hb
        cases hb
    · exact q.elim
/-! ### a chain of three comparisons -/
def tChain3 (r r' r2 : R2) (ta tb tc td : TE) : TE := fun σ H Q => ta σ H fun x H1 => tb σ H1 fun y H2 => r x y H2 fun z H3 => ∃ k, z = .bl k ∧ (if k = true then tc σ H3 fun w H4 => r' y w H4 fun u H5 => ∃ j, u = .bl j ∧ (if j = true then td σ H5 fun t H6 => r2 w t H6 Q else Q (.bl false) H5) else Q (.bl false) H3)
section
variable {X : Cx} {a b c d : Expr} {ta tb tc td : TE} {pos : Pos} {r r' r2 : R2}
theorem pe_chain3 {o1 o2 o3 : CmpOp} (h1 : OpR X (compareOp o1) r) (h2 : OpR X (compareOp o2) r') (h3 : OpR X (compareOp o3) r2) (ha : PE X a ta) (hb : PE X b tb) (hc : PE X c tc) (hd : PE X d td)
    (hm : lastMarks [o1, o2, o3] [b, c, d] = false := by with_unfolding_all rfl) : PE X (.Compare a [o1, o2, o3] [b, c, d] pos) (tChain3 r r' r2 ta tb tc td) := by
  refine ⟨fun pins s σ H Q I q => ?_⟩
  refine Compare_chain (thn (ha.run pins s σ H _ I q) fun v s1 ⟨x, H1, I1, r1, q1⟩ => ?_) hm
  refine chain_link (thn (hb.run pins s1 σ H1 _ I1 q1) fun u s2 ⟨y, H2, I2, rr2, q2⟩ => ?_)
  refine thn (h1 pins s2 σ H2 x y v u _ I2 r1 rr2 q2) fun z s3 ⟨zz, H3, I3, r3, k, e, q3⟩ => ?_
  subst e
  cases r3
  refine wpAny_truthy_bool ?_
  cases k with
  | false => exact ite_ff ⟨.bl false, H3, I3, rfl, q3⟩
  | true =>
    refine ite_tt ?_
    refine chain_link (thn (hc.run pins s3 σ H3 _ I3 q3) fun w s4 ⟨ww, H4, I4, r4, q4⟩ => ?_)
    refine thn (h2 pins s4 σ H4 y ww u w _ I4 rr2 r4 q4) fun z2 s5 ⟨zz2, H5, I5, r5, k2, e2, q5⟩ => ?_
    subst e2
    cases r5
    refine wpAny_truthy_bool ?_
    cases k2 with
    | false => exact ite_ff ⟨.bl false, H5, I5, rfl, q5⟩
    | true => exact ite_tt (chain_last (thn (hd.run pins s5 σ H5 _ I5 q5) fun t s6 ⟨tt, H6, I6, r6, q6⟩ => h3 pins s6 σ H6 ww tt w t Q I6 r4 r6 q6))
end
def mChain3 (f g f3 : D → D → IH → R D) (a b c d : ME) : ME := fun env h => (a env h).bind fun x h1 => (b env h1).bind fun y h2 => (f x y h2).bind fun z h3 => match z with
  | .bl true => (c env h3).bind fun w h4 => (g y w h4).bind fun u h5 => match u with
    | .bl true => (d env h5).bind fun t h6 => f3 w t h6
    | .bl false => .ok (.bl false) h5
    | _ => .no
  | .bl false => .ok (.bl false) h3
  | _ => .no
section
variable {X : Cx} {G : Cf} {W : WX} {a b c d e : Expr} {ma mb mc md : ME} {pos : Pos} {r r' r2 : R2} {f g f3 : D → D → IH → R D}
theorem me_chain3 {o1 o2 o3 : CmpOp} (ho : OpR X (compareOp o1) r) (hs : OpS G r f) (ho' : OpR X (compareOp o2) r') (hs' : OpS G r' g) (ho2 : OpR X (compareOp o3) r2) (hs2 : OpS G r2 f3) (ha : PE X a (tE G W ma)) (hb : PE X b (tE G W mb)) (hc : PE X c (tE G W mc)) (hd : PE X d (tE G W md)) (hm : lastMarks [o1, o2, o3] [b, c, d] = false := by rfl) :
    PE X (.Compare a [o1, o2, o3] [b, c, d] pos) (tE G W (mChain3 f g f3 ma mb mc md)) := PE.imp (pe_chain3 ho ho' ho2 ha hb hc hd hm) fun σ H Q ⟨et, env, h, hE, hH, hP⟩ => by
  refine ⟨et, env, h, hE, hH, (Pst.of_bind hP).imp fun et1 H1 h1 x p e hr q v hv => ?_⟩
  refine ⟨et1, env, h1, hE.mono p e, hr, (Pst.of_bind q).imp fun et2 H2 h2 y p2 e2 hr2 q2 w hw => ?_⟩
  refine hs et2 H2 h2 x y v w _ _ (hv.mono p2 e2) hw hr2 ((Pst.of_bind q2).imp fun et3 H3 h3 z p3 e3 hr3 q3 vz hz => ?_)
  cases z with
  | bl k =>
    refine ⟨k, den_bl.mp hz, ?_⟩
    cases k with
    | true =>
      rw [if_pos rfl]
      refine ⟨et3, env, h3, ((hE.mono p e).mono p2 e2).mono p3 e3, hr3, (Pst.of_bind q3).imp fun et4 H4 h4 u p4 e4 hr4 q4 vu hu => ?_⟩
      refine hs' et4 H4 h4 y u w vu _ _ ((hw.mono p3 e3).mono p4 e4) hu hr4 ((Pst.of_bind q4).imp fun et5 H5 h5 z2 p5 e5 hr5 q5 vz2 hz2 => ?_)
      cases z2 with
      | bl k2 =>
        refine ⟨k2, den_bl.mp hz2, ?_⟩
        cases k2 with
        | true =>
          rw [if_pos rfl]
          refine ⟨et5, env, h5, ((((hE.mono p e).mono p2 e2).mono p3 e3).mono p4 e4).mono p5 e5, hr5, (Pst.of_bind q5).imp fun et6 H6 h6 t p6 e6 hr6 q6 vt ht => ?_⟩
          exact hs2 et6 H6 h6 u t vu vt _ Q ((hu.mono p5 e5).mono p6 e6) ht hr6 q6
        | false =>
          rw [if_neg Bool.false_ne_true]
          exact q5.here hr5 _ (by simp)
      | _ => exact q5.elim
    | false =>
      rw [if_neg Bool.false_ne_true]
      exact q3.here hr3 _ (by simp)
  | _ => exact q3.elim
theorem mt_chain3 {o1 o2 o3 : CmpOp} (ho : OpR X (compareOp o1) r) (hs : OpS G r f) (ho' : OpR X (compareOp o2) r') (hs' : OpS G r' g) (ho2 : OpR X (compareOp o3) r2) (hs2 : OpS G r2 f3) (ha : PE X a (tE G W ma)) (hb : PE X b (tE G W mb)) (hc : PE X c (tE G W mc)) (hd : PE X d (tE G W md)) (hm : lastMarks [o1, o2, o3] [b, c, d] = false := by rfl)
    (hv : ∀ whole, isTrue (.Compare a [o1, o2, o3] [b, c, d] pos) X.env whole = (do let v ← whole; standAt pos; holding [v] (truthy v)) := by intro _; rfl) (hK : X.K = G.K) :
    PT X (.Compare a [o1, o2, o3] [b, c, d] pos) (tT G W (mTr (mChain3 f g f3 ma mb mc md))) := mt_val hK (me_chain3 ho hs ho' hs' ho2 hs2 ha hb hc hd hm) hv
end
/-! ### reversed ranges -/
def iRevR1 (m : MA) : MI := fun env h => (m env h).bind fun xs h1 => match xs with
  | [.int j] => if -10000000 ≤ j ∧ j ≤ 10000000 then .ok (.st (intsDown (j - 1) j.toNat)) h1 else .no
  | _ => .no
def iRevR2 (m : MA) : MI := fun env h => (m env h).bind fun xs h1 => match xs with
  | [.int i, .int j] => if -10000000 ≤ i ∧ i ≤ 10000000 ∧ -10000000 ≤ j ∧ j ≤ 10000000 then .ok (.st (intsDown (j - 1) (j - i).toNat)) h1 else .no
  | _ => .no
section
variable {X : Cx} {G : Cf} {W : WX} {e tg a b : Expr} {me ma mb : ME} {pos p p2 q : Pos}
theorem jrel_downE {et : List Addr} {H : Hp} {hi hi' : Int} {n : Nat} (e : 0 < n → hi = hi') : JRel G et H (.st (intsDown hi n)) (Itc hi' (-1) n) := by
  cases n with
  | zero =>
    refine jrel_st fun et1 H1 h1 p ex R i => ?_
    rw [show (intsDown hi 0)[i]? = none from rfl]
    exact Nat.zero_le i
  | succ n => rw [e (by omega)]; exact jrel_down
theorem mi_revR1 (ha : PE X a (tE G W ma)) (hm : X.mg "reversed" = none) (hm2 : X.mg "range" = none) (hg : Gl X "reversed" := by rfl) (hg2 : Gl X "range" := by rfl) (hs : starEach [.Call (.Name "range" p2) [a] [] q] X.env = (false, eval (.Call (.Name "range" p2) [a] [] q) X.env) :: starEach [] X.env := by rfl) (hs3 : starEach [a] X.env = (false, eval a X.env) :: starEach [] X.env := by rfl) :
    PI X tg (.Call (.Name "reversed" p) [.Call (.Name "range" p2) [a] [] q] [] pos) (tI G W (iRevR1 (mCons ma mNil))) :=
  PI.imp (pi_revR hg hm (prg_1 hg2 hm2 ha hs3) hs) fun σ H K ⟨et, env, h, hE, hH, hP⟩ => by
    refine ⟨et, env, h, hE, hH, (Pst.of_bind (Pst.of_bind hP)).imp fun et1 H1 h1 x p e hr q v hv => ?_⟩
    simp only [mNil, R.bind] at q
    have q := Pst.here hr q
    cases x with
    | int j =>
      dsimp only at q
      split at q
      · rename_i c
        refine ⟨j, den_int.mp hv, by omega, by omega, by omega, by omega, q.here hr _ ?_⟩
        rw [show (j - 0).toNat = j.toNat by omega]
        exact jrel_downE fun h => by omega
      · exact q.elim
    | _ => exact q.elim
end
/-! ### max, min of a tuple -/
section
variable {prog : Program} {w : World} {A : Around} {E : Value → Shared → Prop} {s : Shared} {l : Addr} {its : List Value} {ns : List Int}
theorem tup_kept {h' : Heap} (hk : ∀ b o, b ∉ [s.heap.objs.size] → (s.heap.push { cls := .type "tuple_iterator", data := .fields #[.ref l, .int 0 0] }).get? b = some o → h'.get? b = some o) (b : Addr) (o : Obj) (e : s.heap.get? b = some o) : h'.get? b = some o := by
  refine hk b o (fun hm => ?_) (Heap.get?_push_of_some _ e)
  have := List.mem_singleton.mp hm
  subst this
  exact Nat.lt_irrefl _ (Heap.lt_size e)
theorem tup_fp (lt : l < s.heap.objs.size) (o : Obj) : ∀ b ∈ [s.heap.objs.size, l], b < (s.heap.push o).objs.size := fun b hb => by
  rw [Heap.size_push]
  rcases List.mem_cons.mp hb with rfl | hb
  · exact Nat.lt_succ_self _
  · rw [List.mem_singleton.mp hb]
    exact Nat.lt_succ_of_lt lt
theorem tup_val (hi : IntsAre its ns) (i : Nat) (v : Value) (h : its.toArray[i]? = some v) : ∃ t, v = .int (ns.getD i 0) t := PyProof.Rows.IntsAre.int_at hi i v (by simpa using h)
theorem tup_best {k : Nat} {M : Int} (hk : k < ns.length) (e : ns.getD k 0 = M) : M ∈ ns := by
  rw [List.getD_eq_getElem?_getD, List.getElem?_eq_getElem hk] at e
  rw [← e]
  exact List.getElem_mem hk
theorem max_tup {Q : Value → Shared → Prop} (hh : A.handled = none) (hl : s.heap.IsTuple l its.toArray) (hi : IntsAre its ns) (hne : 0 < ns.length)
    (h : ∀ h' tk M t', (∀ b o, s.heap.get? b = some o → h'.get? b = some o) → M ∈ ns → (∀ a, a ∈ ns → a ≤ M) → Q (.int M t') { s with heap := h', toks := tk }) : wpAny (model prog w) A (call (.builtin "max") [.ref l]) Q E s := by
  have lt : l < s.heap.objs.size := by obtain ⟨_, e, _⟩ := hl; exact Heap.lt_size e
  have hz : its.length = ns.length := IntsAre.length hi
  refine call_max_walk (wpAny_pyIter_tuple hl ?_)
  refine ⟨_, _, _, _, _, _, _, rfl, Walks.tuple (A := A.in1) hh _ l (Nat.ne_of_lt lt) its.toArray, ⟨⟨_, Heap.get?_push_size _ rfl, rfl, rfl⟩, hl.push _⟩, tup_fp lt _, by simpa [hz] using hne, CmpOf.ints_gt (fun i => ns.getD i 0) (tup_val hi), fun v h' tk hP hk => ?_⟩
  obtain ⟨h1, h2⟩ := argBest_gt (fun i => ns.getD i 0) (its.toArray.size - 1)
  obtain ⟨t, rfl⟩ := tup_val hi _ _ hP
  rw [List.size_toArray, hz] at h1 h2
  refine h h' tk _ t (tup_kept hk) (tup_best (by rw [List.size_toArray, hz]; omega) rfl) fun a ha => ?_
  obtain ⟨j, hj⟩ := List.mem_iff_getElem?.mp ha
  have hj2 := (List.getElem?_eq_some_iff.mp hj).1
  have := h2 j (by omega)
  simp only [List.getD_eq_getElem?_getD, hj, Option.getD_some] at this
  simpa [List.getD_eq_getElem?_getD, hz] using this
theorem min_tup {Q : Value → Shared → Prop} (hh : A.handled = none) (hl : s.heap.IsTuple l its.toArray) (hi : IntsAre its ns) (hne : 0 < ns.length)
    (h : ∀ h' tk M t', (∀ b o, s.heap.get? b = some o → h'.get? b = some o) → M ∈ ns → (∀ a, a ∈ ns → M ≤ a) → Q (.int M t') { s with heap := h', toks := tk }) : wpAny (model prog w) A (call (.builtin "min") [.ref l]) Q E s := by
  have lt : l < s.heap.objs.size := by obtain ⟨_, e, _⟩ := hl; exact Heap.lt_size e
  have hz : its.length = ns.length := IntsAre.length hi
  refine call_min_walk (wpAny_pyIter_tuple hl ?_)
  refine ⟨_, _, _, _, _, _, _, rfl, Walks.tuple (A := A.in1) hh _ l (Nat.ne_of_lt lt) its.toArray, ⟨⟨_, Heap.get?_push_size _ rfl, rfl, rfl⟩, hl.push _⟩, tup_fp lt _, by simpa [hz] using hne, CmpOf.ints_lt (fun i => ns.getD i 0) (tup_val hi), fun v h' tk hP hk => ?_⟩
  obtain ⟨h1, h2⟩ := argBest_lt (fun i => ns.getD i 0) (its.toArray.size - 1)
  obtain ⟨t, rfl⟩ := tup_val hi _ _ hP
  rw [List.size_toArray, hz] at h1 h2
  refine h h' tk _ t (tup_kept hk) (tup_best (by rw [List.size_toArray, hz]; omega) rfl) fun a ha => ?_
  obtain ⟨j, hj⟩ := List.mem_iff_getElem?.mp ha
  have hj2 := (List.getElem?_eq_some_iff.mp hj).1
  have := h2 j (by omega)
  simp only [List.getD_eq_getElem?_getD, hj, Option.getD_some] at this
  simpa [List.getD_eq_getElem?_getD, hz] using this
end
def rMaxT (K : PySem.W.Frag) : List V → Hp → VK → Prop := fun vs H Q => ∃ (a : Addr) (ns : List Int), vs = [V.ref a] ∧ (SqL K H a (ns.map V.int) ∨ SqT K H a (ns.map V.int)) ∧ 0 < ns.length ∧ ∀ m, m ∈ ns → (∀ y, y ∈ ns → y ≤ m) → Q (.int m) H
def rMinT (K : PySem.W.Frag) : List V → Hp → VK → Prop := fun vs H Q => ∃ (a : Addr) (ns : List Int), vs = [V.ref a] ∧ (SqL K H a (ns.map V.int) ∨ SqT K H a (ns.map V.int)) ∧ 0 < ns.length ∧ ∀ m, m ∈ ns → (∀ y, y ∈ ns → m ≤ y) → Q (.int m) H
section
variable {X : Cx} {G : Cf}
theorem cr_maxT (hc : X.calm = true) : CallR X (.builtin "max") (rMaxT X.K) := by
  intro pins s σ H vs us Q I r h
  obtain ⟨a, ns, rfl, hs | hs, hne, q⟩ := h
  · exact cr_max hc pins s σ H _ us Q I r ⟨a, ns, rfl, hs, hne, q⟩
  · obtain ⟨its, rv, ht, _⟩ := I.tuple hs
    rw [Vals.ref1 r]
    exact max_tup (I.ok.hd hc) ht rv.ints hne fun h' tk m t' hk h1 h2 => ⟨.int _, H, I.kept hk, ⟨_, rfl⟩, q m h1 h2⟩
theorem cr_minT (hc : X.calm = true) : CallR X (.builtin "min") (rMinT X.K) := by
  intro pins s σ H vs us Q I r h
  obtain ⟨a, ns, rfl, hs | hs, hne, q⟩ := h
  · exact cr_min hc pins s σ H _ us Q I r ⟨a, ns, rfl, hs, hne, q⟩
  · obtain ⟨its, rv, ht, _⟩ := I.tuple hs
    rw [Vals.ref1 r]
    exact min_tup (I.ok.hd hc) ht rv.ints hne fun h' tk m t' hk h1 h2 => ⟨.int _, H, I.kept hk, ⟨_, rfl⟩, q m h1 h2⟩
def bMax1T : List D → IH → R D
  | [x], h => match (seqOf h x).bind (allM D.int?) with
    | some ns => if 0 < ns.length then .ok (.int (imax ns)) h else .no
    | none => .no
  | _, _ => .no
def bMin1T : List D → IH → R D
  | [x], h => match (seqOf h x).bind (allM D.int?) with
    | some ns => if 0 < ns.length then .ok (.int (imin ns)) h else .no
    | none => .no
  | _, _ => .no
theorem sq_ints {et : List Addr} {H : Hp} {h : IH} {x : D} {v : V} {ns : List Int} (R : HRel G et h H) (e : (seqOf h x).bind (allM D.int?) = some ns) (r : Den G et H x v) : ∃ a, v = .ref a ∧ (SqL G.K H a (ns.map V.int) ∨ SqT G.K H a (ns.map V.int)) := by
  cases hq : seqOf h x with
  | none => rw [hq] at e; cases e
  | some ds =>
    rw [hq] at e
    obtain ⟨a, vs, rfl, h1, h2⟩ := seq_ok R hq r
    have := allM_ints (ds := ds) e
    subst this
    rw [h2.ints] at h1
    exact ⟨a, rfl, h1⟩
theorem bMax1T_ok : CallS G (rMaxT G.K) bMax1T := by
  intro et H h xs vs W Q hv hr q
  unfold bMax1T at q
  split at q
  · obtain ⟨v, rfl, r⟩ := list1 hv
    split at q
    · rename_i ns e
      split at q
      · rename_i l
        obtain ⟨a, rfl, s⟩ := sq_ints hr e r
        refine ⟨a, ns, rfl, s, l, fun m m1 m2 => ?_⟩
        have em : m = imax ns := Int.le_antisymm (imax_le m1) (m2 _ (imax_mem l))
        rw [em]
        exact q.here hr _ (by simp)
      · exact q.elim
    · exact q.elim
  · exact q.elim
theorem bMin1T_ok : CallS G (rMinT G.K) bMin1T := by
  intro et H h xs vs W Q hv hr q
  unfold bMin1T at q
  split at q
  · obtain ⟨v, rfl, r⟩ := list1 hv
    split at q
    · rename_i ns e
      split at q
      · rename_i l
        obtain ⟨a, rfl, s⟩ := sq_ints hr e r
        refine ⟨a, ns, rfl, s, l, fun m m1 m2 => ?_⟩
        have em : m = imin ns := Int.le_antisymm (m2 _ (imin_mem l)) (imin_le m1)
        rw [em]
        exact q.here hr _ (by simp)
      · exact q.elim
    · exact q.elim
  · exact q.elim
end
end NR

set_option Elab.async false
set_option linter.all false
set_option maxRecDepth 100000
set_option maxHeartbeats 4000000
/-! Lists within tuples and lists, locked. -/
namespace NR
open PySem PySem.Spec PyProof.Rows L2
/-- some locks lead there -/
inductive Locks (P : Hp → Prop) : Hp → Prop
  | done {H : Hp} (h : P H) : Locks P H
  | lock {H : Hp} {a : Addr} {u : HO} (e : H a = some u) (m : Mut (some u)) (k : ∀ od, Locks P (upd H a (.frz od u))) : Locks P H
theorem Locks.bind {P Q : Hp → Prop} {H : Hp} (x : Locks P H) (k : ∀ H', P H' → Locks Q H') : Locks Q H := by
  induction x with
  | done h => exact k _ h
  | lock e m _ ih => exact .lock e m ih
theorem Locks.imp {P Q : Hp → Prop} {H : Hp} (x : Locks P H) (k : ∀ H', P H' → Q H') : Locks Q H := x.bind fun H' h => .done (k H' h)
theorem Locks.run {X : Cx} {P : Hp → Prop} {pins : List (Addr × Obj)} {σ : L2.St} {s : Shared} {H : Hp} (x : Locks P H) : Inv X pins σ H s → ∃ H', Inv X pins σ H' s ∧ P H' := by
  induction x with
  | done h => exact fun I => ⟨_, I, h⟩
  | lock e m _ ih =>
    intro I
    obtain ⟨od, I2⟩ := I.lock e m
    exact ih od I2
mutual
/-- the lists and dicts from cell number b on, locked -/
def dzD (b : Nat) : Nat → IH → D → Option (D × IH)
  | 0, _, _ => none
  | k + 1, h, .ref n => if b ≤ n then (match h[n]? with
    | some (.lst xs) => match dzL b k (h.set n (.frz xs)) xs with
      | some (ys, h1) => some (.fl ys, h1)
      | none => none
    | _ => none) else some (.ref n, h)
  | k + 1, h, .tup l => match dzL b k h l with
    | some (ys, h1) => some (.tup ys, h1)
    | none => none
  | _ + 1, h, .fl l => some (.fl l, h)
  | _ + 1, h, .fd ks l => some (.fd ks l, h)
  | _ + 1, h, .exc a => none
  | _ + 1, h, .non => some (.non, h)
  | _ + 1, h, .bl i => some (.bl i, h)
  | _ + 1, h, .int i => some (.int i, h)
  | _ + 1, h, .str i => some (.str i, h)
def dzL (b : Nat) : Nat → IH → List D → Option (List D × IH)
  | 0, _, _ => none
  | _ + 1, h, [] => some ([], h)
  | k + 1, h, d :: l => match dzD b k h d with
    | some (y, h1) => match dzL b k h1 l with
      | some (ys, h2) => some (y :: ys, h2)
      | none => none
    | none => none
end
section
variable {G : Cf} {et : List Addr}
theorem dz_ok (b : Nat) : ∀ (k : Nat), (∀ (h : IH) (H : Hp) (d d' : D) (h' : IH) (v : V), HRel G et h H → Den G et H d v → dzD b k h d = some (d', h') → Locks (fun H' => HRel G et h' H' ∧ Ext H H' ∧ Den G et H' d' v) H) ∧
    (∀ (h : IH) (H : Hp) (l l' : List D) (h' : IH) (vs : List V), HRel G et h H → DenL G et H l vs → dzL b k h l = some (l', h') → Locks (fun H' => HRel G et h' H' ∧ Ext H H' ∧ DenL G et H' l' vs) H)
  | 0 => ⟨fun _ _ _ _ _ _ _ _ e => by simp [dzD] at e, fun _ _ _ _ _ _ _ _ e => by simp [dzL] at e⟩
  | k + 1 => by
    obtain ⟨ihD, ihL⟩ := dz_ok b k
    refine ⟨fun h H d d' h' v R r e => ?_, fun h H l l' h' vs R r e => ?_⟩
    · cases d with
      | ref n =>
        unfold dzD at e
        split at e
        · split at e
          · rename_i xs hx
            split at e
            · rename_i ys h1 e1
              cases e
              obtain ⟨a, ha, rfl⟩ := den_ref.mp r
              obtain ⟨vs, k1, k2⟩ := R.cell n _ a hx ha
              refine .lock k1 True.intro fun od => ?_
              have ex : Ext H (upd H a (.frz od (.lst vs))) := Ext.mut k1 True.intro
              have hf : DenL G et (upd H a (.frz od (.lst vs))) xs vs := k2.mono List.prefix_rfl ex
              have hc : CellOk G et (upd H a (.frz od (.lst vs))) a (.frz xs) := ⟨vs, .inl ⟨od, upd_same⟩, hf⟩
              refine (ihL _ _ xs ys h' vs (R.set hx ha rfl k1 True.intro hc) hf e1).imp fun H1 ⟨R1, x1, D1⟩ => ⟨R1, ex.trans x1, ?_⟩
              exact den_fl.mpr ⟨a, vs, rfl, FrzM.ext x1 ⟨od, upd_same⟩, D1⟩
            · cases e
          · cases e
        · cases e
          exact .done ⟨R, Ext.refl H, r⟩
      | tup l =>
        unfold dzD at e
        split at e
        · rename_i ys h1 e1
          cases e
          obtain ⟨a, vs, rfl, h2, h3⟩ := den_tup.mp r
          exact (ihL h H l ys h' vs R h3 e1).imp fun H1 ⟨R1, x1, D1⟩ => ⟨R1, x1, den_tup.mpr ⟨a, vs, rfl, h2.ext x1, D1⟩⟩
        · cases e
      | exc a => simp [dzD] at e
      | fl l => simp [dzD] at e; obtain ⟨rfl, rfl⟩ := e; exact .done ⟨R, Ext.refl H, r⟩
      | fd ks l => simp [dzD] at e; obtain ⟨rfl, rfl⟩ := e; exact .done ⟨R, Ext.refl H, r⟩
      | non => simp [dzD] at e; obtain ⟨rfl, rfl⟩ := e; exact .done ⟨R, Ext.refl H, r⟩
      | bl i => simp [dzD] at e; obtain ⟨rfl, rfl⟩ := e; exact .done ⟨R, Ext.refl H, r⟩
      | int i => simp [dzD] at e; obtain ⟨rfl, rfl⟩ := e; exact .done ⟨R, Ext.refl H, r⟩
      | str i => simp [dzD] at e; obtain ⟨rfl, rfl⟩ := e; exact .done ⟨R, Ext.refl H, r⟩
    · cases l with
      | nil =>
        simp [dzL] at e
        obtain ⟨rfl, rfl⟩ := e
        exact .done ⟨R, Ext.refl H, r⟩
      | cons d l =>
        unfold dzL at e
        split at e
        · rename_i y h1 e1
          split at e
          · rename_i ys h2 e2
            cases e
            obtain ⟨v, ws, rfl, r1, r2⟩ := denL_cons.mp r
            refine (ihD h H d y h1 v R r1 e1).bind fun H1 ⟨R1, x1, D1⟩ => ?_
            refine (ihL h1 H1 l ys h' ws R1 (r2.mono List.prefix_rfl x1) e2).imp fun H2 ⟨R2, x2, D2⟩ => ⟨R2, x1.trans x2, ?_⟩
            exact denL_cons.mpr ⟨v, ws, rfl, D1.mono List.prefix_rfl x2, D2⟩
          · cases e
        · cases e
end
open Classical in
noncomputable def dzR (h : IH) (r : R D) : R D := match r with
  | .ok d h' => match dzD h.length 1000 h' d with
    | some (d', h2) => if D.lo h.length d' = true ∧ okB h.length h h2 then .ok d' (h2.take h.length) else .ok d h'
    | none => .ok d h'
  | r => r
noncomputable def mDz (m : ME) : ME := fun env h => dzR h (m env h)
theorem me_dz {X : Cx} {G : Cf} {W : WX} {e : Expr} {m : ME} (he : PE X e (tE G W m)) : PE X e (tE G W (mDz m)) := ⟨fun pins s σ H Q I ⟨et, env, h, hE, hH, hP⟩ => by
  have main : Pst G et H (m env h) (fun et' H' _ d => ∀ v, Den G et' H' d v → Locks (fun H2 => Q v H2) H') (fun c d H' => W c d σ H') := by
    have hP : Pst G et H (dzR h (m env h)) _ _ := hP
    revert hP
    cases m env h with
    | no => exact fun z => z
    | ex c d h' => exact fun z => z
    | ok d h' =>
      intro hP
      have dull : Pst G et H (.ok d h') (fun et' H' _ d => ∀ v, Den G et' H' d v → Q v H') (fun c d H' => W c d σ H') → Pst G et H (.ok d h') (fun et' H' _ d => ∀ v, Den G et' H' d v → Locks (fun H2 => Q v H2) H') (fun c d H' => W c d σ H') := fun z => z.imp fun et1 H1 h1 a p e hr q v hv => .done (q v hv)
      unfold dzR at hP
      dsimp only at hP
      split at hP
      · rename_i d' h2 e1
        split at hP
        · rename_i c
          intro et' H' p e hr v hv
          refine ((dz_ok (G := G) (et := et') h.length 1000).1 h' H' d d' h2 v hr hv e1).imp fun H2 ⟨R2, x2, D2⟩ => ?_
          have al := okB_all hH c.2
          have R3 := R2.cut p al
          rw [hH.len] at R3
          have lo := c.1
          rw [← hH.len] at lo
          exact hP et H2 List.prefix_rfl (e.trans x2) R3 v (D2.back p lo)
        · exact dull hP
      · exact dull hP
  refine thn (he.run pins s σ H _ I ⟨et, env, h, hE, hH, main⟩) fun v s1 ⟨x, H1, I1, r, q⟩ => ?_
  obtain ⟨H2, I2, q2⟩ := q.run I1
  exact ⟨x, H2, I2, r, q2⟩⟩
end NR

set_option Elab.async false
set_option linter.all false
set_option maxRecDepth 100000
set_option maxHeartbeats 4000000
namespace NR
open PySem PySem.Spec PyProof.Rows L2
/-! ### str(n); a statement that is never come to -/
def bStr1 : List D → IH → R D
  | [.int i], h => if i.natAbs.log2 < 1920 then .ok (.str (PySem.Str.cps (toString i)).toList) h else .no
  | _, _ => .no
theorem strV_back (x : Str) : strV x.cps.toList = x := by
  obtain ⟨c⟩ := x
  rfl
section
variable {G : Cf}
theorem bStr1_ok : CallS G (fun xs H Q => ∃ i : Int, xs = [.int i] ∧ i.natAbs.log2 < 1920 ∧ Q (.str (toString i)) H) bStr1 := by
  intro et H h xs vs W Q rv R p
  unfold bStr1 at p
  split at p
  · split at p
    · rename_i c
      obtain ⟨v, rfl, h1⟩ := list1 rv
      exact ⟨_, by rw [den_int.mp h1], c, p.here R _ (den_str.mpr (by rw [strV_back]))⟩
    · exact p.elim
  · exact p.elim
end
def msNoS : MS := fun _ _ => .no
theorem ms_noS {X : Cx} {G : Cf} {W : WX} {st : Stmt} : PS X st (tS G W msNoS) := ⟨fun _ _ _ _ _ _ ⟨_, _, _, _, _, hP⟩ => hP.elim⟩
end NR

set_option Elab.async false
set_option linter.all false
set_option maxRecDepth 100000
set_option maxHeartbeats 4000000
/-! startswith, partition, enumerate(.., start=k), a name that stands for another def. -/
namespace NR
open PySem PySem.Spec PyProof.Rows L2
/-! ### texts -/
def fStarts : D → List D → IH → R D
  | .str s, [.str p], h => .ok (.bl (p.isPrefixOf s)) h
  | _, _, _ => .no
def fPartition : D → List D → IH → R D
  | .str s, [.str [c]], h => if s.length ≤ 10000000 then (match fnd c s with
    | some i => .ok (.tup [.str (s.take i), .str [c], .str (s.drop (i + 1))]) h
    | none => .ok (.tup [.str s, .str [], .str []]) h) else .no
  | _, _, _ => .no
theorem strV_list (s : List Nat) : (strV s).cps.toList = s := by simp [strV]
theorem starts_strV (s p : List Nat) : Txt.startswith (strV s) (strV p) = p.isPrefixOf s := by
  unfold Txt.startswith
  rw [StrLaws.subAt_eq, strV_list, strV_list, strV_length, strV_length, List.drop_zero]
  rw [Bool.eq_iff_iff, Bool.and_eq_true, List.isPrefixOf_iff_prefix, List.prefix_iff_eq_take]
  simp only [decide_eq_true_eq, beq_iff_eq, Nat.zero_add]
  constructor
  · rintro ⟨_, e⟩
    exact e.symm
  · intro e
    refine ⟨?_, e.symm⟩
    have := congrArg List.length e
    rw [List.length_take] at this
    omega
theorem strV_of {x : Str} {l : List Nat} (h : x.cps.toList = l) : x = strV l := by
  subst h
  obtain ⟨c⟩ := x
  simp [strV]
theorem partition_one (s : List Nat) (c : Nat) : Txt.partition (strV s) (strV [c]) = match fnd c s with
    | some i => (strV (s.take i), strV [c], strV (s.drop (i + 1)))
    | none => (strV s, strV [], strV []) := by
  have := occ_fnd s c
  unfold Txt.partition
  revert this
  cases fnd c s with
  | none =>
    intro h
    rw [h]
    rfl
  | some i =>
    rintro ⟨r, h⟩
    rw [h]
    dsimp only
    refine Prod.ext (strV_of ?_) (Prod.ext rfl (strV_of ?_))
    · rw [StrLaws.strSub_toList, strV_list, List.drop_zero, Nat.sub_zero]
    · rw [StrLaws.strSub_toList, strV_list, strV_length, strV_length]
      refine List.take_of_length_le ?_
      rw [List.length_drop]
      exact Nat.le_refl _
section
variable {G : Cf}
theorem fStarts_ok : MethS G (fun x xs H Q => ∃ a b, x = .str a ∧ xs = [.str b] ∧ Q (.bl (Txt.startswith a b)) H) fStarts := by
  intro et H h x v xs vs W Q rx rv R p
  unfold fStarts at p
  split at p
  · obtain ⟨w, rfl, r⟩ := list1 rv
    exact ⟨_, _, den_str.mp rx, by rw [den_str.mp r], p.here R _ (by rw [starts_strV]; simp)⟩
  · exact p.elim
theorem den_tup3 {et : List Addr} {H : Hp} {a b c : List Nat} {T : Addr} : Den G et (upd H T (.tup [.str (strV a), .str (strV b), .str (strV c)])) (.tup [.str a, .str b, .str c]) (.ref T) :=
  den_tup.mpr ⟨T, [.str (strV a), .str (strV b), .str (strV c)], rfl, upd_same .., denL_cons.mpr ⟨_, _, rfl, den_str.mpr rfl, denL_cons.mpr ⟨_, _, rfl, den_str.mpr rfl, denL_cons.mpr ⟨_, _, rfl, den_str.mpr rfl, denL_nil.mpr rfl⟩⟩⟩⟩
theorem fPartition_ok : MethS G (fun x xs H Q => ∃ a b, x = .str a ∧ xs = [.str b] ∧ (b.length == 0) = false ∧ a.length ≤ sizeLine ∧
    ∀ p, H p = none → Q (.ref p) (upd H p (.tup [.str (Txt.partition a b).1, .str (Txt.partition a b).2.1, .str (Txt.partition a b).2.2]))) fPartition := by
  intro et H h x v xs vs W Q rx rv R p
  unfold fPartition at p
  split at p
  · rename_i s c
    split at p
    · rename_i q
      obtain ⟨w, rfl, r⟩ := list1 rv
      refine ⟨_, _, den_str.mp rx, by rw [den_str.mp r], rfl, ?_, fun tp htp => ?_⟩
      · rw [strV_length, sizeLine_eq]; omega
      · rw [partition_one]
        split at p
        · exact p et (upd H tp (.tup _)) List.prefix_rfl (Ext.new htp) (R.new htp) _ den_tup3
        · exact p et (upd H tp (.tup _)) List.prefix_rfl (Ext.new htp) (R.new htp) _ den_tup3
    · exact p.elim
  · exact p.elim
end
/-! ### enumerate(.., start=k) -/
section
variable {M : Model} {A : Around} {E : Value → Shared → Prop} {s : Shared} {env : PySem.Env}
theorem callWith_type_kw {pos : Pos} {T : String} {e : Expr} {rest : List Expr} {kws : List Keyword} {Q : Value → Shared → Prop}
    (h : wpAny M A (spliced (backTo pos (starEach (e :: rest) env))) (fun vs s1 => wpAny M A (evalAll ((backToKw pos (keywordEach kws env)).map (·.2)))
      (fun kvs s2 => wpAny M A (call (.type T) vs (((backToKw pos (keywordEach kws env)).filterMap (·.1)).zip kvs)) Q E s2) E s1) E s)
    (he : backTo pos (starEach (e :: rest) env) = (false, eval e env) :: backTo pos (starEach rest env) := by rfl)
    (hp : (backTo pos (starEach (e :: rest) env)).any (·.1) = false := by rfl)
    (hall : (backToKw pos (keywordEach kws env)).all (·.1.isSome) = true := by rfl)
    (hk : (backToKw pos (keywordEach kws env)).any (·.1.isNone) = false := by rfl) :
    wpAny M A (callWith pos (.type T) [] (backTo pos (starEach (e :: rest) env)) (backToKw pos (keywordEach kws env))) Q E s := by
  have q : wpAny M A (evalArgs (.type T) true (backTo pos (starEach (e :: rest) env)) (backToKw pos (keywordEach kws env))) (fun a s1 => wpAny M A (call (.type T) ([] ++ a.pos) a.kw) Q E s1) E s := by
    rw [he] at h ⊢
    exact evalArgs_kwB hall h
  unfold callWith
  refine wpAny_bind (wpAny_holding (wpAny_mono q (fun a s1 h1 => wpAny_bind (wpAny_standAt ?_)) fun _ _ x => x))
  simp only [hp, hk, Bool.or_false]
  refine wpAny_bind (wpAny_pure ?_)
  exact wpAny_bind (wpAny_mono h1 (fun r s2 hr => wpAny_bind (wpAny_holding (wpAny_point (wpAny_pure hr)))) fun _ _ x => x)
end
def iEqS (K : PySem.W.Frag) (c : Nat) (ta : TA) : TI := fun σ H R => ta σ H fun vs H1 => ∃ k xs, vs = [Kd.v k] ∧ k.At K H1 xs ∧ R (Ieq K k (c : Nat) xs.length) H1
section
variable {X : Cx} {e : Expr} {ta : TA} {p pos tpos kp kq : Pos} {elts : List Expr} {kk c j : Nat}
theorem pi_eqS (hg : Gl X "enumerate") (hm : X.mg "enumerate" = none) (ha : PA X [e] ta) (hc : c < 1000000)
    (he : backTo pos (starEach [e] X.env) = (false, eval e X.env) :: backTo pos (starEach [] X.env) := by rfl) (hpl : (backTo pos (starEach [e] X.env)).any (·.1) = false := by rfl) :
    PI X (.Tuple elts kk tpos) (.Call (.Name "enumerate" p) [e] [⟨some "start", .Constant (.int (c : Nat)) j kp, kq⟩] pos) (iEqS X.K c ta) := by
  refine ⟨fun pins s σ H R I h => ?_⟩
  have kn : PK X [⟨some "start", .Constant (.int (c : Nat)) j kp, kq⟩] (tCons (fun _ H Q => Q (.int (c : Nat)) H) tNil) := pk_cons pe_int pk_nil
  refine wpAny_Call_Name_kw (ld_blt I hg hm boot_enumerate (callWith_type_kw (thn (ha.run pos pins s σ H _ I h) fun us s1 ⟨vs, H1, I1, rr, k, xs, ex, a1, q⟩ => thn (kn.run pos pins s1 σ H1 (fun zs H2 => zs = [.int (c : Nat)] ∧ H2 = H1) I1 ⟨rfl, rfl⟩) fun ws s2 ⟨zs, H2, I2, r2, ez, eH⟩ => ?_) he hpl))
  subst ex ez eH
  cases rr with
  | cons r rr =>
    cases rr
    cases r2 with
    | cons r2 rr2 =>
      cases rr2
      obtain ⟨tt, rfl⟩ := r2
      obtain ⟨o1, B1, b1, t1, g1, l1⟩ := Kd.begins I2 k a1 r
      refine enum_begins_start b1 t1 (by omega) (by omega) fun h' hz hx hsz hk => wpAny_pyIter_enum hz ?_
      have I3 : Inv X pins σ H2 { s2 with heap := h' } := I2.kept (t' := s2.toks) hk
      have hz0 : IsEnum h' (s2.heap.objs.size + 1) s2.heap.objs.size ((c : Nat) + ((0 : Nat) : Int)) .none := by rw [Int.natCast_zero, Int.add_zero]; exact hz
      refine ⟨s2.heap.objs.size + 1, [s2.heap.objs.size + 1, s2.heap.objs.size], _, _, H2, rfl, I3, turn_eq k (c : Nat) xs.length s2.heap.objs.size l1, ⟨Nat.zero_le _, ⟨_, hz0⟩, g1 _ _ hx⟩, fun b hb => ?_, q⟩
      have : b = s2.heap.objs.size + 1 ∨ b = s2.heap.objs.size := by simpa using hb
      have hle : s2.heap.objs.size ≤ b := by rcases this with z | z <;> rw [z] <;> simp
      exact I2.fpOk hle (I2.hok.fresh hle)
end
def iEnumS (c : Nat) (m : MA) : MI := fun env h => (m env h).bind fun xs h1 => match xs with
  | [a] => match stOf a with
    | some l => .ok (.st (l.mapIdx fun i x => .tup [.int ((c : Nat) + (i : Nat)), x])) h1
    | none => .no
  | _ => .no
section
variable {X : Cx} {G : Cf} {W : WX} {e : Expr} {mt : MA} {pos p tpos kp kq : Pos} {elts : List Expr} {kk c j : Nat}
theorem mi_enumS (hK : X.K = G.K) (ha : PA X [e] (tA G W mt)) (hm : X.mg "enumerate" = none) (hc : c < 1000000 := by decide) (hg : Gl X "enumerate" := by rfl)
    (he : backTo pos (starEach [e] X.env) = (false, eval e X.env) :: backTo pos (starEach [] X.env) := by rfl) (hpl : (backTo pos (starEach [e] X.env)).any (·.1) = false := by rfl) :
    PI X (.Tuple elts kk tpos) (.Call (.Name "enumerate" p) [e] [⟨some "start", .Constant (.int (c : Nat)) j kp, kq⟩] pos) (tI G W (iEnumS c mt)) := PI.imp (pi_eqS hg hm ha hc he hpl) fun σ H R ⟨et, env, h, hE, hH, hP⟩ => by
  rw [hK]
  refine ⟨et, env, h, hE, hH, (Pst.of_bind hP).imp fun et1 H1 h1 xs p e hr q vs hv => ?_⟩
  split at q
  · rename_i a
    obtain ⟨v, rfl, ra⟩ := list1 hv
    cases ea : stOf a with
    | none =>
      rw [ea] at q
      exact q.elim
    | some l =>
      rw [ea] at q
      obtain ⟨k1, xs, rfl, d1, st1⟩ := stOf_kd ea ra
      refine ⟨k1, xs, rfl, st1 _ (Ext.refl _), q.here hr _ (jrel_st fun et2 H2 h2 p2 e2 R2 i => ?_)⟩
      have n1 := d1.len
      rw [List.getElem?_mapIdx]
      cases e3 : l[i]? with
      | none =>
        have := List.getElem?_eq_none_iff.mp e3
        exact ⟨by omega, xs, st1 _ e2, rfl⟩
      | some d =>
        have m1 := (List.getElem?_eq_some_iff.mp e3).1
        refine ⟨⟨by omega, xs, st1 _ e2, rfl⟩, fun z H' ⟨T, x, hz, hT, hH', hx⟩ => ?_⟩
        subst hz hH'
        obtain ⟨v1, w1, r1⟩ := d1.get e3
        have x1 := hx _ (st1 _ e2)
        rw [w1] at x1
        cases x1
        exact ⟨Ext.new hT, R2.new hT, den_pair (h := h2) hT (by simp) (r1.mono p2 e2)⟩
  · exact q.elim
end
/-! ### a name that stands for another def -/
structure DefAtN (K : PySem.W.Frag) (mg : Str → Option Value) (x nm : Str) (st : Stmt) (ps : List Str) : Prop where
  ex : ∃ f fd, Fun K nm nm st f fd ∧ mg x = some (.ref f) ∧ Binds K fd ps []
theorem DefAtN.fn {P : Program} {w : World} {K : PySem.W.Frag} {mg : Str → Option Value} {base : Heap} {G : Cf} {x nm : Str} {st : Stmt} {ps : List Str} {k n : Nat} {fm : MF} (d : DefAtN K mg x nm st ps) (h : ∀ f fd, Fun K nm nm st f fd → FnOk P w K mg base (L2.CX P w) k f fd ps (FSp G n fm)) : FnG P w K mg base G x k n fm := by
  obtain ⟨f, fd, h1, h2, h3⟩ := d.ex
  exact ⟨f, fd, ps, h f fd h1, h2, h1.kp, h3⟩
end NR

set_option Elab.async false
set_option linter.all false
set_option maxRecDepth 100000
set_option maxHeartbeats 4000000
namespace NR
open PySem PySem.Spec PyProof.Rows L2
def topS (i : Nat) : Stmt := PySem.Challenge.pw_nearreach_k80_books_written.main.body.getD i (.Pass ⟨0, 0, 0, 0⟩)
def c_SIGNS : D := .str [32, 33, 34, 35, 36, 38, 39, 40, 41, 42, 43, 44, 45, 46, 47, 48, 49, 50, 51, 52, 53, 54, 55, 56, 57, 58, 59, 60, 61, 62, 63, 64, 65, 66, 67, 68, 69, 70, 71, 72, 73, 74, 75, 76, 77, 78, 79, 80, 81, 82, 83, 84, 85, 86, 87, 88, 89, 90, 91, 92, 93, 94, 95, 96, 97, 98, 99, 100, 101, 102, 103, 104, 105, 106, 107, 108, 109, 110, 111, 112, 113, 114, 115, 116, 117, 118, 119, 120, 121, 122, 123, 124, 125, 126, 10]
def c_MOST_SIGNS : D := .int 6
def c_DEEPEST : D := .int 5
def c_MOST_PARTS : D := .int 24
def c_MOST_IN : D := .int 6
def c_MOST_TIMES : D := .int 4
def c_MOST_WEIGHT : D := .int 10
def c_LETTERS_books : D := .str [97, 98, 99, 100, 101, 102, 103, 104, 105, 106, 107, 108, 109, 110, 111, 112, 113, 114, 115, 116, 117, 118, 119, 120, 121, 122]
def c_MOST_RULES : D := .int 6
def c_MOST_LETTERS : D := .int 8
def c_FIGURES : D := .str [48, 49, 50, 51, 52, 53, 54, 55, 56, 57]
def c_LETTERS_booktexts : D := .str [97, 98, 99, 100, 101, 102, 103, 104, 105, 106, 107, 108, 109, 110, 111, 112, 113, 114, 115, 116, 117, 118, 119, 120, 121, 122]
def hT : CTab := [(("NoBook", "NoQuote"), false), (("NoBook", "NoShape"), false), (("NoLine", "NoQuote"), false), (("NoLine", "NoShape"), false), (("NoQuote", "NoQuote"), true), (("NoQuote", "NoShape"), false), (("NoShape", "NoQuote"), false), (("NoShape", "NoShape"), true), (("TooHeavy", "NoQuote"), false), (("TooHeavy", "NoShape"), false)]
/-! is_number -/
noncomputable def m_is_number : MF := fnM 1 (msRet (mAndV (mIs "int" (mVar 0)) (mNotV (mIs "bool" (mVar 0)))))
theorem sc_is_number : FnScope ["thing"] ["thing"] (defScope (topS 1)) := ⟨rfl, rfl, rfl, by decide +kernel, rfl, by decide +kernel, by decide +kernel⟩
theorem okf_is_number {P : Program} {w : World} {K : PySem.W.Frag} {mg : Str → Option Value} {base : Heap} {cl : Str → Addr} {f : Addr} {fd : FuncData} (F : Fun K "is_number" "is_number" (topS 1) f fd) (z_isinstance : mg "isinstance" = none) (z_int : mg "int" = none) (z_bool : mg "bool" = none) : FnOk P w K mg base (L2.CX P w) 1 f fd ["thing"] (FSp ⟨K, cl⟩ 1 m_is_number) :=
  fnPM F sc_is_number rfl fun cdv A outer s H E hr tk hp => mss_one (ms_ret (me_and (me_is rfl (me_var 0) z_isinstance z_int) (me_one (me_not (me_is rfl (me_var 0) z_isinstance z_bool)))))
theorem ok_is_number {P : Program} {w : World} {K : PySem.W.Frag} {mg : Str → Option Value} {base : Heap} {cl : Str → Addr} (d : DefAt K mg "is_number" (topS 1) ["thing"]) (z_isinstance : mg "isinstance" = none) (z_int : mg "int" = none) (z_bool : mg "bool" = none) : FnG P w K mg base ⟨K, cl⟩ "is_number" 1 1 m_is_number := d.fn fun f fd F => okf_is_number F z_isinstance z_int z_bool
/-! is_tongue -/
noncomputable def b_is_tongue_1 : MS := msIf (mOr (mTb (mOp (dIn true) (mVar 1) (mC c_SIGNS))) (mTb (mOp dGt (mMeth "str" fCount (mVar 0) (mCons (mVar 1) (mNil))) (mC (.int 1))))) (msRet (mC (.bl false))) (msNil)
noncomputable def m_is_tongue : MF := fnM 2 (msCons (msIf (mOr (mNot (mTr (mIs "str" (mVar 0)))) (mNot (mTb (mChain dLe dLe (mC (.int 1)) (mB bLen (mCons (mVar 0) (mNil))) (mC c_MOST_SIGNS))))) (msRet (mC (.bl false))) (msNil))
    (msCons (msFor (iSeq (mVar 0)) (gSet 1) b_is_tongue_1)
    (msRet (mC (.bl true)))))
theorem sc_is_tongue : FnScope ["thing", "sign"] ["thing"] (defScope (topS 12)) := ⟨rfl, rfl, rfl, by decide +kernel, rfl, by decide +kernel, by decide +kernel⟩
theorem okf_is_tongue {P : Program} {w : World} {K : PySem.W.Frag} {mg : Str → Option Value} {base : Heap} {cl : Str → Addr} {f : Addr} {fd : FuncData} (F : Fun K "is_tongue" "is_tongue" (topS 12) f fd) (z_isinstance : mg "isinstance" = none) (z_str : mg "str" = none) (z_len : mg "len" = none) (g_MOST_SIGNS : GlC mg "MOST_SIGNS" c_MOST_SIGNS) (g_SIGNS : GlC mg "SIGNS" c_SIGNS) : FnOk P w K mg base (L2.CX P w) 1 f fd ["thing"] (FSp ⟨K, cl⟩ 1 m_is_tongue) :=
  fnPM F sc_is_tongue rfl fun cdv A outer s H E hr tk hp => mss_cons (ms_if (mt_w (mw_or (mt_not (mt_val rfl (me_is rfl (me_var 0) z_isinstance z_str))) (mw_or1 (mt_not (mt_chain op_le opS_C op_le opS_C (me_int) (me_callB call_lenA bLen_ok z_len (by decide +kernel) (ma_cons (me_var 0) (ma_nil))) (me_globG g_MOST_SIGNS)))))) (mss_one (ms_ret (me_bl))) (mss_nil))
    (mss_cons (ms_for rfl hp (mi_seq rfl (me_var 0)) (mg_name 1 sc_is_tongue.nd) (mss_one (ms_if (mt_w (mw_or (mt_cmp (op_notInA hr.units) (dIn_ok rfl true) (me_var 1) (me_globG g_SIGNS)) (mw_or1 (mt_cmp op_gt opS_C (me_meth rfl PySem.F.plainAttrs_str PySem.F.slot_str_count PySem.F.type_str_count mt_count fCount_ok (me_var 0) (ma_cons (me_var 1) (ma_nil))) (me_int))))) (mss_one (ms_ret (me_bl))) (mss_nil))))
    (mss_one (ms_ret (me_bl))))
theorem ok_is_tongue {P : Program} {w : World} {K : PySem.W.Frag} {mg : Str → Option Value} {base : Heap} {cl : Str → Addr} (d : DefAt K mg "is_tongue" (topS 12) ["thing"]) (z_isinstance : mg "isinstance" = none) (z_str : mg "str" = none) (z_len : mg "len" = none) (g_MOST_SIGNS : GlC mg "MOST_SIGNS" c_MOST_SIGNS) (g_SIGNS : GlC mg "SIGNS" c_SIGNS) : FnG P w K mg base ⟨K, cl⟩ "is_tongue" 1 1 m_is_tongue := d.fn fun f fd F => okf_is_tongue F z_isinstance z_str z_len g_MOST_SIGNS g_SIGNS
/-! are_some -/
noncomputable def m_are_some : MF := fnM 2 (msRet (mAndV (mIs "tuple" (mVar 0)) (mChain dLe dLe (mVar 1) (mB bLen (mCons (mVar 0) (mNil))) (mC c_MOST_IN))))
theorem sc_are_some : FnScope ["thing", "least"] ["thing", "least"] (defScope (topS 18)) := ⟨rfl, rfl, rfl, by decide +kernel, rfl, by decide +kernel, by decide +kernel⟩
theorem okf_are_some {P : Program} {w : World} {K : PySem.W.Frag} {mg : Str → Option Value} {base : Heap} {cl : Str → Addr} {f : Addr} {fd : FuncData} (F : Fun K "are_some" "are_some" (topS 18) f fd) (z_isinstance : mg "isinstance" = none) (z_tuple : mg "tuple" = none) (z_len : mg "len" = none) (g_MOST_IN : GlC mg "MOST_IN" c_MOST_IN) : FnOk P w K mg base (L2.CX P w) 1 f fd ["thing", "least"] (FSp ⟨K, cl⟩ 2 m_are_some) :=
  fnPM F sc_are_some rfl fun cdv A outer s H E hr tk hp => mss_one (ms_ret (me_and (me_is rfl (me_var 0) z_isinstance z_tuple) (me_one (me_chain op_le opS_C op_le opS_C (me_var 1) (me_callB call_lenA bLen_ok z_len (by decide +kernel) (ma_cons (me_var 0) (ma_nil))) (me_globG g_MOST_IN)))))
theorem ok_are_some {P : Program} {w : World} {K : PySem.W.Frag} {mg : Str → Option Value} {base : Heap} {cl : Str → Addr} (d : DefAt K mg "are_some" (topS 18) ["thing", "least"]) (z_isinstance : mg "isinstance" = none) (z_tuple : mg "tuple" = none) (z_len : mg "len" = none) (g_MOST_IN : GlC mg "MOST_IN" c_MOST_IN) : FnG P w K mg base ⟨K, cl⟩ "are_some" 1 2 m_are_some := d.fn fun f fd F => okf_are_some F z_isinstance z_tuple z_len g_MOST_IN
/-! inner -/
noncomputable def m_inner : MF := fnM 1 (msCons (msIf (mTb (mOp (dEq false) (mOp dIx (mVar 0) (mC (.int 0))) (mC (.str [111, 110, 101])))) (msRet (mTup (mNil))) (msNil))
    (msCons (msIf (mTb (mOp (dIn false) (mOp dIx (mVar 0) (mC (.int 0))) (mTup (mCons (mC (.str [114, 111, 119])) (mCons (mC (.str [101, 105, 116, 104, 101, 114])) (mNil)))))) (msRet (mOp dIx (mVar 0) (mC (.int 1)))) (msNil))
    (msRet (mTup (mCons (mOp dIx (mVar 0) (mC (.int 1))) (mNil))))))
theorem sc_inner : FnScope ["shape"] ["shape"] (defScope (topS 21)) := ⟨rfl, rfl, rfl, by decide +kernel, rfl, by decide +kernel, by decide +kernel⟩
theorem okf_inner {P : Program} {w : World} {K : PySem.W.Frag} {mg : Str → Option Value} {base : Heap} {cl : Str → Addr} {f : Addr} {fd : FuncData} (F : Fun K "inner" "inner" (topS 21) f fd) : FnOk P w K mg base (L2.CX P w) 1 f fd ["shape"] (FSp ⟨K, cl⟩ 1 m_inner) :=
  fnPM F sc_inner rfl fun cdv A outer s H E hr tk hp => mss_cons (ms_if (mt_cmp (op_eqP hr.units) (dEq_ok rfl) (me_ix rfl (me_var 0) (me_int)) (me_str [111, 110, 101])) (mss_one (ms_ret (me_tup (ma_nil)))) (mss_nil))
    (mss_cons (ms_if (mt_cmp (op_inA hr.units) (dIn_ok rfl false) (me_ix rfl (me_var 0) (me_int)) (me_tup (ma_cons (me_str [114, 111, 119]) (ma_cons (me_str [101, 105, 116, 104, 101, 114]) (ma_nil))))) (mss_one (ms_ret (me_ix rfl (me_var 0) (me_int)))) (mss_nil))
    (mss_one (ms_ret (me_tup (ma_cons (me_ix rfl (me_var 0) (me_int)) (ma_nil))))))
theorem ok_inner {P : Program} {w : World} {K : PySem.W.Frag} {mg : Str → Option Value} {base : Heap} {cl : Str → Addr} (d : DefAt K mg "inner" (topS 21) ["shape"]) : FnG P w K mg base ⟨K, cl⟩ "inner" 1 1 m_inner := d.fn fun f fd F => okf_inner F
/-! is_name_books -/
noncomputable def b_is_name_books_1 : MS := msIf (mTb (mOp (dIn true) (mVar 1) (mC c_LETTERS_books))) (msRet (mC (.bl false))) (msNil)
noncomputable def m_is_name_books : MF := fnM 2 (msCons (msIf (mOr (mNot (mTr (mIs "str" (mVar 0)))) (mNot (mTb (mChain dLe dLe (mC (.int 1)) (mB bLen (mCons (mVar 0) (mNil))) (mC c_MOST_LETTERS))))) (msRet (mC (.bl false))) (msNil))
    (msCons (msFor (iSeq (mVar 0)) (gSet 1) b_is_name_books_1)
    (msRet (mC (.bl true)))))
theorem sc_is_name_books : FnScope ["thing", "letter"] ["thing"] (defScope (topS 31)) := ⟨rfl, rfl, rfl, by decide +kernel, rfl, by decide +kernel, by decide +kernel⟩
theorem okf_is_name_books {P : Program} {w : World} {K : PySem.W.Frag} {mg : Str → Option Value} {base : Heap} {cl : Str → Addr} {f : Addr} {fd : FuncData} (F : Fun K "is_name" "is_name" (topS 31) f fd) (z_isinstance : mg "isinstance" = none) (z_str : mg "str" = none) (z_len : mg "len" = none) (g_MOST_LETTERS : GlC mg "MOST_LETTERS" c_MOST_LETTERS) (g_LETTERS_books : GlC mg "LETTERS_books" c_LETTERS_books) : FnOk P w K mg base (L2.CX P w) 1 f fd ["thing"] (FSp ⟨K, cl⟩ 1 m_is_name_books) :=
  fnPM F sc_is_name_books rfl fun cdv A outer s H E hr tk hp => mss_cons (ms_if (mt_w (mw_or (mt_not (mt_val rfl (me_is rfl (me_var 0) z_isinstance z_str))) (mw_or1 (mt_not (mt_chain op_le opS_C op_le opS_C (me_int) (me_callB call_lenA bLen_ok z_len (by decide +kernel) (ma_cons (me_var 0) (ma_nil))) (me_globG g_MOST_LETTERS)))))) (mss_one (ms_ret (me_bl))) (mss_nil))
    (mss_cons (ms_for rfl hp (mi_seq rfl (me_var 0)) (mg_name 1 sc_is_name_books.nd) (mss_one (ms_if (mt_cmp (op_notInA hr.units) (dIn_ok rfl true) (me_var 1) (me_globG g_LETTERS_books)) (mss_one (ms_ret (me_bl))) (mss_nil))))
    (mss_one (ms_ret (me_bl))))
theorem ok_is_name_books {P : Program} {w : World} {K : PySem.W.Frag} {mg : Str → Option Value} {base : Heap} {cl : Str → Addr} (d : DefAtN K mg "is_name_books" "is_name" (topS 31) ["thing"]) (z_isinstance : mg "isinstance" = none) (z_str : mg "str" = none) (z_len : mg "len" = none) (g_MOST_LETTERS : GlC mg "MOST_LETTERS" c_MOST_LETTERS) (g_LETTERS_books : GlC mg "LETTERS_books" c_LETTERS_books) : FnG P w K mg base ⟨K, cl⟩ "is_name_books" 1 1 m_is_name_books := d.fn fun f fd F => okf_is_name_books F z_isinstance z_str z_len g_MOST_LETTERS g_LETTERS_books
/-! sign_written -/
noncomputable def m_sign_written : MF := fnM 1 (msCons (msIf (mTb (mOp (dEq false) (mVar 0) (mC (.str [10])))) (msRet (mC (.str [92, 110]))) (msNil))
    (msCons (msIf (mTb (mOp (dIn false) (mVar 0) (mTup (mCons (mC (.str [92])) (mCons (mC (.str [62])) (mNil)))))) (msRet (mOp dAdd (mC (.str [92])) (mVar 0))) (msNil))
    (msRet (mVar 0))))
theorem sc_sign_written : FnScope ["sign"] ["sign"] (defScope (topS 38)) := ⟨rfl, rfl, rfl, by decide +kernel, rfl, by decide +kernel, by decide +kernel⟩
theorem okf_sign_written {P : Program} {w : World} {K : PySem.W.Frag} {mg : Str → Option Value} {base : Heap} {cl : Str → Addr} {f : Addr} {fd : FuncData} (F : Fun K "sign_written" "sign_written" (topS 38) f fd) : FnOk P w K mg base (L2.CX P w) 1 f fd ["sign"] (FSp ⟨K, cl⟩ 1 m_sign_written) :=
  fnPM F sc_sign_written rfl fun cdv A outer s H E hr tk hp => mss_cons (ms_if (mt_cmp (op_eqP hr.units) (dEq_ok rfl) (me_var 0) (me_str [10])) (mss_one (ms_ret (me_str [92, 110]))) (mss_nil))
    (mss_cons (ms_if (mt_cmp (op_inA hr.units) (dIn_ok rfl false) (me_var 0) (me_tup (ma_cons (me_str [92]) (ma_cons (me_str [62]) (ma_nil))))) (mss_one (ms_ret (me_add rfl (me_str [92]) (me_var 0)))) (mss_nil))
    (mss_one (ms_ret (me_var 0))))
theorem ok_sign_written {P : Program} {w : World} {K : PySem.W.Frag} {mg : Str → Option Value} {base : Heap} {cl : Str → Addr} (d : DefAt K mg "sign_written" (topS 38) ["sign"]) : FnG P w K mg base ⟨K, cl⟩ "sign_written" 1 1 m_sign_written := d.fn fun f fd F => okf_sign_written F
/-! sign_behind -/
noncomputable def m_sign_behind : MF := fnM 1 (msCons (msIf (mTb (mOp (dEq false) (mVar 0) (mC (.str [110])))) (msRet (mC (.str [10]))) (msNil))
    (msCons (msIf (mTb (mOp (dIn false) (mVar 0) (mTup (mCons (mC (.str [92])) (mCons (mC (.str [62])) (mNil)))))) (msRet (mVar 0)) (msNil))
    (msRaise "NoQuote")))
theorem sc_sign_behind : FnScope ["sign"] ["sign"] (defScope (topS 40)) := ⟨rfl, rfl, rfl, by decide +kernel, rfl, by decide +kernel, by decide +kernel⟩
theorem okf_sign_behind {P : Program} {w : World} {K : PySem.W.Frag} {mg : Str → Option Value} {base : Heap} {cl : Str → Addr} {f : Addr} {fd : FuncData} (F : Fun K "sign_behind" "sign_behind" (topS 40) f fd) (x_NoQuote : ExC1 K mg "NoQuote" (cl "NoQuote")) : FnOk P w K mg base (L2.CX P w) 1 f fd ["sign"] (FSp ⟨K, cl⟩ 1 m_sign_behind) :=
  fnPM F sc_sign_behind rfl fun cdv A outer s H E hr tk hp => mss_cons (ms_if (mt_cmp (op_eqP hr.units) (dEq_ok rfl) (me_var 0) (me_str [110])) (mss_one (ms_ret (me_str [10]))) (mss_nil))
    (mss_cons (ms_if (mt_cmp (op_inA hr.units) (dIn_ok rfl false) (me_var 0) (me_tup (ma_cons (me_str [92]) (ma_cons (me_str [62]) (ma_nil))))) (mss_one (ms_ret (me_var 0))) (mss_nil))
    (mss_one (ms_raise rfl tk x_NoQuote)))
theorem ok_sign_behind {P : Program} {w : World} {K : PySem.W.Frag} {mg : Str → Option Value} {base : Heap} {cl : Str → Addr} (d : DefAt K mg "sign_behind" (topS 40) ["sign"]) (x_NoQuote : ExC1 K mg "NoQuote" (cl "NoQuote")) : FnG P w K mg base ⟨K, cl⟩ "sign_behind" 1 1 m_sign_behind := d.fn fun f fd F => okf_sign_behind F x_NoQuote
/-! figure_at -/
noncomputable def m_figure_at : MF := fnM 2 (msCons (msIf (mOr (mTb (mOp (dEq false) (mFz (mSlice (mVar 0) (moSome (mVar 1)) (moSome (mOp dAdd (mVar 1) (mC (.int 1)))))) (mC (.str [])))) (mTb (mOp (dIn true) (mOp dIx (mVar 0) (mVar 1)) (mC c_FIGURES)))) (msRaise "NoShape") (msNil))
    (msRet (mMeth "str" fFind (mC c_FIGURES) (mCons (mOp dIx (mVar 0) (mVar 1)) (mNil)))))
theorem sc_figure_at : FnScope ["text", "at"] ["text", "at"] (defScope (topS 48)) := ⟨rfl, rfl, rfl, by decide +kernel, rfl, by decide +kernel, by decide +kernel⟩
theorem okf_figure_at {P : Program} {w : World} {K : PySem.W.Frag} {mg : Str → Option Value} {base : Heap} {cl : Str → Addr} {f : Addr} {fd : FuncData} (F : Fun K "figure_at" "figure_at" (topS 48) f fd) (g_FIGURES : GlC mg "FIGURES" c_FIGURES) (x_NoShape : ExC1 K mg "NoShape" (cl "NoShape")) : FnOk P w K mg base (L2.CX P w) 1 f fd ["text", "at"] (FSp ⟨K, cl⟩ 2 m_figure_at) :=
  fnPM F sc_figure_at rfl fun cdv A outer s H E hr tk hp => mss_cons (ms_if (mt_w (mw_or (mt_cmp (op_eqP hr.units) (dEq_ok rfl) (me_fz (me_slice rfl (me_var 0) (moS (me_var 1)) (moS (me_add rfl (me_var 1) (me_int))))) (me_str [])) (mw_or1 (mt_cmp (op_notInA hr.units) (dIn_ok rfl true) (me_ix rfl (me_var 0) (me_var 1)) (me_globG g_FIGURES))))) (mss_one (ms_raise rfl tk x_NoShape)) (mss_nil))
    (mss_one (ms_ret (me_meth rfl PySem.F.plainAttrs_str PySem.F.slot_str_find PySem.F.type_str_find mt_find fFind_ok (me_globG g_FIGURES) (ma_cons (me_ix rfl (me_var 0) (me_var 1)) (ma_nil)))))
theorem ok_figure_at {P : Program} {w : World} {K : PySem.W.Frag} {mg : Str → Option Value} {base : Heap} {cl : Str → Addr} (d : DefAt K mg "figure_at" (topS 48) ["text", "at"]) (g_FIGURES : GlC mg "FIGURES" c_FIGURES) (x_NoShape : ExC1 K mg "NoShape" (cl "NoShape")) : FnG P w K mg base ⟨K, cl⟩ "figure_at" 1 2 m_figure_at := d.fn fun f fd F => okf_figure_at F g_FIGURES x_NoShape
/-! is_name_booktexts -/
noncomputable def e_is_name_booktexts_1 : ME := mOp (dIn false) (mVar 1) (mC c_LETTERS_booktexts)
noncomputable def m_is_name_booktexts : MF := fnM 2 (msRet (mAndV (mChain dLe dLe (mC (.int 1)) (mB bLen (mCons (mVar 0) (mNil))) (mC (.int 8))) (mB bAll (mCons (mFz (mLc (iSeq (mVar 0)) (gSet 1) mYes e_is_name_booktexts_1 [1])) (mNil)))))
theorem sc_is_name_booktexts : FnScope ["text", "sign"] ["text"] (defScope (topS 56)) := ⟨rfl, rfl, rfl, by decide +kernel, rfl, by decide +kernel, by decide +kernel⟩
theorem okf_is_name_booktexts {P : Program} {w : World} {K : PySem.W.Frag} {mg : Str → Option Value} {base : Heap} {cl : Str → Addr} {f : Addr} {fd : FuncData} (F : Fun K "is_name" "is_name" (topS 56) f fd) (z_len : mg "len" = none) (z_all : mg "all" = none) (g_LETTERS_booktexts : GlC mg "LETTERS_booktexts" c_LETTERS_booktexts) : FnOk P w K mg base (L2.CX P w) 1 f fd ["text"] (FSp ⟨K, cl⟩ 1 m_is_name_booktexts) :=
  fnPM F sc_is_name_booktexts rfl fun cdv A outer s H E hr tk hp => mss_one (ms_ret (me_and (me_chain op_le opS_C op_le opS_C (me_int) (me_callB call_lenA bLen_ok z_len (by decide +kernel) (ma_cons (me_var 0) (ma_nil))) (me_int)) (me_one (me_callB (cr_all rfl) bAll_ok z_all (by decide +kernel) (ma_cons (me_fz (me_lc (own := [("sign", 1)]) rfl sc_is_name_booktexts.nd (mi_seq rfl (me_var 0)) (blkOk_by (N := ["text", "sign"]) (sc := defScope (topS 56)) (by decide +kernel)) (fun _ _ _ _ _ => mg_name 1 sc_is_name_booktexts.nd) (fun _ _ _ _ _ => mts_nil) (fun _ _ _ _ _ => me_cmp (op_inA hr.units) (dIn_ok rfl false) (me_var 1) (me_globG g_LETTERS_booktexts)))) (ma_nil))))))
theorem ok_is_name_booktexts {P : Program} {w : World} {K : PySem.W.Frag} {mg : Str → Option Value} {base : Heap} {cl : Str → Addr} (d : DefAtN K mg "is_name_booktexts" "is_name" (topS 56) ["text"]) (z_len : mg "len" = none) (z_all : mg "all" = none) (g_LETTERS_booktexts : GlC mg "LETTERS_booktexts" c_LETTERS_booktexts) : FnG P w K mg base ⟨K, cl⟩ "is_name_booktexts" 1 1 m_is_name_booktexts := d.fn fun f fd F => okf_is_name_booktexts F z_len z_all g_LETTERS_booktexts
/-! _law_hand -/
noncomputable def m__law_hand : MF := fnM 1 (msRet (mLst (mCons (mFz (mB bListX (mCons (mFz (mSlice (mVar 0) (moNone) (moSome (mC (.int 63))))) (mNil)))) (mCons (mC (.int 0)) (mCons (mC (.int 0)) (mCons (mC (.int 7)) (mCons (mC (.int 0)) (mNil))))))))
theorem sc__law_hand : FnScope ["_law_script"] ["_law_script"] (defScope (topS 62)) := ⟨rfl, rfl, rfl, by decide +kernel, rfl, by decide +kernel, by decide +kernel⟩
theorem okf__law_hand {P : Program} {w : World} {K : PySem.W.Frag} {mg : Str → Option Value} {base : Heap} {cl : Str → Addr} {f : Addr} {fd : FuncData} (F : Fun K "_law_hand" "_law_hand" (topS 62) f fd) (z_list : mg "list" = none) : FnOk P w K mg base (L2.CX P w) 1 f fd ["_law_script"] (FSp ⟨K, cl⟩ 1 m__law_hand) :=
  fnPM F sc__law_hand rfl fun cdv A outer s H E hr tk hp => mss_one (ms_ret (me_lst (ma_cons (me_fz (me_callT (call_listX rfl) bListX_ok z_list (by decide +kernel) (ma_cons (me_fz (me_slice rfl (me_var 0) (moN) (moS (me_int)))) (ma_nil)))) (ma_cons (me_int) (ma_cons (me_int) (ma_cons (me_int) (ma_cons (me_int) (ma_nil))))))))
theorem ok__law_hand {P : Program} {w : World} {K : PySem.W.Frag} {mg : Str → Option Value} {base : Heap} {cl : Str → Addr} (d : DefAt K mg "_law_hand" (topS 62) ["_law_script"]) (z_list : mg "list" = none) : FnG P w K mg base ⟨K, cl⟩ "_law_hand" 1 1 m__law_hand := d.fn fun f fd F => okf__law_hand F z_list
/-! _law_take -/
noncomputable def m__law_take : MF := fnM 4 (msCons (msIf (mTb (mOp dLt (mVar 1) (mC (.int 2)))) (msRet (mC (.int 0))) (msNil))
    (msCons (msIf (mAnd (mTb (mOp (dEq false) (mOp dIx (mVar 0) (mC (.int 2))) (mC (.int 0)))) (mTb (mOp dLt (mOp dIx (mVar 0) (mC (.int 1))) (mB bLen (mCons (mOp dIx (mVar 0) (mC (.int 0))) (mNil)))))) (msCons (msSet 2 (mOp dIx (mOp dIx (mVar 0) (mC (.int 0))) (mOp dIx (mVar 0) (mC (.int 1)))))
    (msCons (msAugI dIAdd (mVar 0) (mC (.int 1)) (mC (.int 1)))
    (msCons (msSetI (mVar 0) (mC (.int 3)) (mOp dMod (mOp dAdd (mOp dMul (mOp dIx (mVar 0) (mC (.int 3))) (mC (.int 48271))) (mVar 2)) (mC (.int 2147483647))))
    (msIf (mTb (mOp dGe (mB bAbs (mCons (mVar 2) (mNil))) (mOp dPow (mC (.int 10)) (mC (.int 18))))) (msSetI (mVar 0) (mC (.int 2)) (mB bAbs (mCons (mVar 2) (mNil)))) (msNil))))) (msNil))
    (msCons (msIf (mTb (mOp dGt (mOp dIx (mVar 0) (mC (.int 2))) (mC (.int 0)))) (msCons (msSet 3 (mOp dMod (mOp dIx (mVar 0) (mC (.int 2))) (mVar 1)))
    (msCons (msSetI (mVar 0) (mC (.int 2)) (mOp dDiv (mOp dIx (mVar 0) (mC (.int 2))) (mVar 1)))
    (msRet (mVar 3)))) (msNil))
    (msCons (msAugI dIAdd (mVar 0) (mC (.int 4)) (mC (.int 1)))
    (msRet (mOp dMod (mOp dDiv (mOp dMod (mOp dPow (mOp dAdd (mOp dIx (mVar 0) (mC (.int 3))) (mOp dMul (mC (.int 7368787)) (mOp dIx (mVar 0) (mC (.int 4))))) (mC (.int 5))) (mC (.int 2147483647))) (mC (.int 1009))) (mVar 1)))))))
theorem sc__law_take : FnScope ["_law_hand_here", "_law_many", "_law_cell", "_law_told"] ["_law_hand_here", "_law_many"] (defScope (topS 63)) := ⟨rfl, rfl, rfl, by decide +kernel, rfl, by decide +kernel, by decide +kernel⟩
theorem okf__law_take {P : Program} {w : World} {K : PySem.W.Frag} {mg : Str → Option Value} {base : Heap} {cl : Str → Addr} {f : Addr} {fd : FuncData} (F : Fun K "_law_take" "_law_take" (topS 63) f fd) (z_len : mg "len" = none) (z_abs : mg "abs" = none) : FnOk P w K mg base (L2.CX P w) 1 f fd ["_law_hand_here", "_law_many"] (FSp ⟨K, cl⟩ 2 m__law_take) :=
  fnPM F sc__law_take rfl fun cdv A outer s H E hr tk hp => mss_cons (ms_if (mt_cmp op_lt opS_C (me_var 1) (me_int)) (mss_one (ms_ret (me_int))) (mss_nil))
    (mss_cons (ms_if (mt_w (mw_and (mt_cmp (op_eqP hr.units) (dEq_ok rfl) (me_ix rfl (me_var 0) (me_int)) (me_int)) (mw_and1 (mt_cmp op_lt opS_C (me_ix rfl (me_var 0) (me_int)) (me_callB call_lenA bLen_ok z_len (by decide +kernel) (ma_cons (me_ix rfl (me_var 0) (me_int)) (ma_nil))))))) (mss_cons (ms_set 2 sc__law_take.nd (me_ix rfl (me_ix rfl (me_var 0) (me_int)) (me_ix rfl (me_var 0) (me_int))))
    (mss_cons (ms_augI rfl iop_addA iadd_ok (me_var 0) (me_int) (me_int))
    (mss_cons (ms_setI (me_mod (me_add rfl (me_mul rfl (me_ix rfl (me_var 0) (me_int)) (me_int)) (me_var 2)) (me_int)) (me_var 0) (me_int))
    (mss_one (ms_if (mt_cmp op_ge opS_C (me_callB call_abs bAbs_ok z_abs (by decide +kernel) (ma_cons (me_var 2) (ma_nil))) (me_pow (me_int) (me_int))) (mss_one (ms_setI (me_callB call_abs bAbs_ok z_abs (by decide +kernel) (ma_cons (me_var 2) (ma_nil))) (me_var 0) (me_int))) (mss_nil)))))) (mss_nil))
    (mss_cons (ms_if (mt_cmp op_gt opS_C (me_ix rfl (me_var 0) (me_int)) (me_int)) (mss_cons (ms_set 3 sc__law_take.nd (me_mod (me_ix rfl (me_var 0) (me_int)) (me_var 1)))
    (mss_cons (ms_setI (me_div (me_ix rfl (me_var 0) (me_int)) (me_var 1)) (me_var 0) (me_int))
    (mss_one (ms_ret (me_var 3))))) (mss_nil))
    (mss_cons (ms_augI rfl iop_addA iadd_ok (me_var 0) (me_int) (me_int))
    (mss_one (ms_ret (me_mod (me_div (me_mod (me_pow (me_add rfl (me_ix rfl (me_var 0) (me_int)) (me_mul rfl (me_int) (me_ix rfl (me_var 0) (me_int)))) (me_int)) (me_int)) (me_int)) (me_var 1)))))))
theorem ok__law_take {P : Program} {w : World} {K : PySem.W.Frag} {mg : Str → Option Value} {base : Heap} {cl : Str → Addr} (d : DefAt K mg "_law_take" (topS 63) ["_law_hand_here", "_law_many"]) (z_len : mg "len" = none) (z_abs : mg "abs" = none) : FnG P w K mg base ⟨K, cl⟩ "_law_take" 1 2 m__law_take := d.fn fun f fd F => okf__law_take F z_len z_abs
/-! _law_signs -/
noncomputable def m__law_signs : MF := fnM 1 (msCons (msSet 0 (mC (.str [32, 33, 34, 35, 36, 38, 39, 40, 41, 42, 43, 44, 45, 46, 47, 48, 49, 50, 51, 52, 53, 54, 55, 56, 57, 58, 59, 60, 61, 62, 63, 64, 65, 66, 67, 68, 69, 70, 71, 72, 73, 74, 75, 76, 77, 78, 79, 80, 81, 82, 83, 84, 85, 86, 87, 88, 89, 90, 91, 92, 93, 94, 95, 96])))
    (msRet (mOp dAdd (mVar 0) (mC (.str [97, 98, 99, 100, 101, 102, 103, 104, 105, 106, 107, 108, 109, 110, 111, 112, 113, 114, 115, 116, 117, 118, 119, 120, 121, 122, 123, 124, 125, 126, 10])))))
theorem sc__law_signs : FnScope ["_law_some"] [] (defScope (topS 64)) := ⟨rfl, rfl, rfl, by decide +kernel, rfl, by decide +kernel, by decide +kernel⟩
theorem okf__law_signs {P : Program} {w : World} {K : PySem.W.Frag} {mg : Str → Option Value} {base : Heap} {cl : Str → Addr} {f : Addr} {fd : FuncData} (F : Fun K "_law_signs" "_law_signs" (topS 64) f fd) : FnOk P w K mg base (L2.CX P w) 1 f fd [] (FSp ⟨K, cl⟩ 0 m__law_signs) :=
  fnPM F sc__law_signs rfl fun cdv A outer s H E hr tk hp => mss_cons (ms_set 0 sc__law_signs.nd (me_str [32, 33, 34, 35, 36, 38, 39, 40, 41, 42, 43, 44, 45, 46, 47, 48, 49, 50, 51, 52, 53, 54, 55, 56, 57, 58, 59, 60, 61, 62, 63, 64, 65, 66, 67, 68, 69, 70, 71, 72, 73, 74, 75, 76, 77, 78, 79, 80, 81, 82, 83, 84, 85, 86, 87, 88, 89, 90, 91, 92, 93, 94, 95, 96]))
    (mss_one (ms_ret (me_add rfl (me_var 0) (me_str [97, 98, 99, 100, 101, 102, 103, 104, 105, 106, 107, 108, 109, 110, 111, 112, 113, 114, 115, 116, 117, 118, 119, 120, 121, 122, 123, 124, 125, 126, 10]))))
theorem ok__law_signs {P : Program} {w : World} {K : PySem.W.Frag} {mg : Str → Option Value} {base : Heap} {cl : Str → Addr} (d : DefAt K mg "_law_signs" (topS 64) []) : FnG P w K mg base ⟨K, cl⟩ "_law_signs" 1 0 m__law_signs := d.fn fun f fd F => okf__law_signs F
/-! _law_quote -/
noncomputable def b__law_quote_1 : MS := msIf (mTb (mOp (dEq false) (mVar 2) (mC (.str [10])))) (msSet 1 (mOp dAdd (mVar 1) (mC (.str [92, 110])))) (msIf (mOr (mTb (mOp (dEq false) (mVar 2) (mC (.str [62])))) (mTb (mOp (dEq false) (mVar 2) (mC (.str [92]))))) (msSet 1 (mOp dAdd (mOp dAdd (mVar 1) (mC (.str [92]))) (mVar 2))) (msSet 1 (mFz (mOp dAdd (mVar 1) (mVar 2)))))
noncomputable def m__law_quote : MF := fnM 3 (msCons (msSet 1 (mC (.str [])))
    (msCons (msFor (iSeq (mVar 0)) (gSet 2) b__law_quote_1)
    (msRet (mOp dAdd (mOp dAdd (mC (.str [60])) (mVar 1)) (mC (.str [62]))))))
theorem sc__law_quote : FnScope ["_law_text", "_law_told", "_law_sign"] ["_law_text"] (defScope (topS 70)) := ⟨rfl, rfl, rfl, by decide +kernel, rfl, by decide +kernel, by decide +kernel⟩
theorem okf__law_quote {P : Program} {w : World} {K : PySem.W.Frag} {mg : Str → Option Value} {base : Heap} {cl : Str → Addr} {f : Addr} {fd : FuncData} (F : Fun K "_law_quote" "_law_quote" (topS 70) f fd) : FnOk P w K mg base (L2.CX P w) 1 f fd ["_law_text"] (FSp ⟨K, cl⟩ 1 m__law_quote) :=
  fnPM F sc__law_quote rfl fun cdv A outer s H E hr tk hp => mss_cons (ms_set 1 sc__law_quote.nd (me_str []))
    (mss_cons (ms_for rfl hp (mi_seq rfl (me_var 0)) (mg_name 2 sc__law_quote.nd) (mss_one (ms_if (mt_cmp (op_eqP hr.units) (dEq_ok rfl) (me_var 2) (me_str [10])) (mss_one (ms_set 1 sc__law_quote.nd (me_add rfl (me_var 1) (me_str [92, 110])))) (mss_one (ms_if (mt_w (mw_or (mt_cmp (op_eqP hr.units) (dEq_ok rfl) (me_var 2) (me_str [62])) (mw_or1 (mt_cmp (op_eqP hr.units) (dEq_ok rfl) (me_var 2) (me_str [92]))))) (mss_one (ms_set 1 sc__law_quote.nd (me_add rfl (me_add rfl (me_var 1) (me_str [92])) (me_var 2)))) (mss_one (ms_set 1 sc__law_quote.nd (me_fz (me_add rfl (me_var 1) (me_var 2))))))))))
    (mss_one (ms_ret (me_add rfl (me_add rfl (me_str [60]) (me_var 1)) (me_str [62])))))
theorem ok__law_quote {P : Program} {w : World} {K : PySem.W.Frag} {mg : Str → Option Value} {base : Heap} {cl : Str → Addr} (d : DefAt K mg "_law_quote" (topS 70) ["_law_text"]) : FnG P w K mg base ⟨K, cl⟩ "_law_quote" 1 1 m__law_quote := d.fn fun f fd F => okf__law_quote F
/-! are_times -/
noncomputable def m_are_times : MF := fnM 2 (msRet (mAndV (mCall 1 (m_is_number) (mCons (mVar 0) (mNil))) (mAndV (mCall 1 (m_is_number) (mCons (mVar 1) (mNil))) (mChain3 dLe dLe dLe (mC (.int 0)) (mVar 0) (mVar 1) (mC c_MOST_TIMES)))))
theorem sc_are_times : FnScope ["low", "high"] ["low", "high"] (defScope (topS 19)) := ⟨rfl, rfl, rfl, by decide +kernel, rfl, by decide +kernel, by decide +kernel⟩
theorem okf_are_times {P : Program} {w : World} {K : PySem.W.Frag} {mg : Str → Option Value} {base : Heap} {cl : Str → Addr} {f : Addr} {fd : FuncData} (F : Fun K "are_times" "are_times" (topS 19) f fd) (g_MOST_TIMES : GlC mg "MOST_TIMES" c_MOST_TIMES) (F_is_number : FnG P w K mg base ⟨K, cl⟩ "is_number" 1 1 m_is_number) : FnOk P w K mg base (L2.CX P w) 2 f fd ["low", "high"] (FSp ⟨K, cl⟩ 2 m_are_times) :=
  fnPM F sc_are_times rfl fun cdv A outer s H E hr tk hp => mss_one (ms_ret (me_and (me_callG F_is_number hr (by decide) tk (ma_cons (me_var 0) (ma_nil))) (me_and (me_callG F_is_number hr (by decide) tk (ma_cons (me_var 1) (ma_nil))) (me_one (me_chain3 op_le opS_C op_le opS_C op_le opS_C (me_int) (me_var 0) (me_var 1) (me_globG g_MOST_TIMES))))))
theorem ok_are_times {P : Program} {w : World} {K : PySem.W.Frag} {mg : Str → Option Value} {base : Heap} {cl : Str → Addr} (d : DefAt K mg "are_times" (topS 19) ["low", "high"]) (g_MOST_TIMES : GlC mg "MOST_TIMES" c_MOST_TIMES) (F_is_number : FnG P w K mg base ⟨K, cl⟩ "is_number" 1 1 m_is_number) : FnG P w K mg base ⟨K, cl⟩ "are_times" 2 2 m_are_times := d.fn fun f fd F => okf_are_times F g_MOST_TIMES F_is_number
/-! quoted -/
noncomputable def e_quoted_1 : ME := mCall 1 (m_sign_written) (mCons (mVar 1) (mNil))
noncomputable def m_quoted : MF := fnM 2 (msRet (mOp dAdd (mOp dAdd (mC (.str [60])) (mMeth "str" fJoin (mC (.str [])) (mCons (mFz (mLc (iSeq (mVar 0)) (gSet 1) mYes e_quoted_1 [1])) (mNil)))) (mC (.str [62]))))
theorem sc_quoted : FnScope ["text", "sign"] ["text"] (defScope (topS 39)) := ⟨rfl, rfl, rfl, by decide +kernel, rfl, by decide +kernel, by decide +kernel⟩
theorem okf_quoted {P : Program} {w : World} {K : PySem.W.Frag} {mg : Str → Option Value} {base : Heap} {cl : Str → Addr} {f : Addr} {fd : FuncData} (F : Fun K "quoted" "quoted" (topS 39) f fd) (F_sign_written : FnG P w K mg base ⟨K, cl⟩ "sign_written" 1 1 m_sign_written) : FnOk P w K mg base (L2.CX P w) 2 f fd ["text"] (FSp ⟨K, cl⟩ 1 m_quoted) :=
  fnPM F sc_quoted rfl fun cdv A outer s H E hr tk hp => mss_one (ms_ret (me_add rfl (me_add rfl (me_str [60]) (me_meth rfl PySem.F.plainAttrs_str PySem.F.slot_str_join PySem.F.type_str_join mt_join fJoin_ok (me_str []) (ma_cons (me_fz (me_lc (own := [("sign", 1)]) rfl sc_quoted.nd (mi_seq rfl (me_var 0)) (blkOk_by (N := ["text", "sign"]) (sc := defScope (topS 39)) (by decide +kernel)) (fun _ _ _ _ _ => mg_name 1 sc_quoted.nd) (fun _ _ _ _ _ => mts_nil) (fun _ _ _ _ _ => me_callG F_sign_written hr (by decide) takes0 (ma_cons (me_var 1) (ma_nil))))) (ma_nil)))) (me_str [62])))
theorem ok_quoted {P : Program} {w : World} {K : PySem.W.Frag} {mg : Str → Option Value} {base : Heap} {cl : Str → Addr} (d : DefAt K mg "quoted" (topS 39) ["text"]) (F_sign_written : FnG P w K mg base ⟨K, cl⟩ "sign_written" 1 1 m_sign_written) : FnG P w K mg base ⟨K, cl⟩ "quoted" 2 1 m_quoted := d.fn fun f fd F => okf_quoted F F_sign_written
/-! quote_at -/
noncomputable def t_quote_at_1 : MT := mAnd (mTb (mOp dLt (mVar 1) (mB bLen (mCons (mVar 0) (mNil))))) (mTb (mOp (dIn true) (mOp dIx (mVar 0) (mVar 1)) (mTup (mCons (mC (.str [62])) (mCons (mC (.str [10])) (mNil))))))
noncomputable def b_quote_at_2 : MS := msCons (msIf (mTb (mOp (dEq false) (mOp dIx (mVar 0) (mVar 1)) (mC (.str [92])))) (msCons (msAug 1 dIAdd (mC (.int 1)))
    (msAug 2 dIAdd (mCall 1 (m_sign_behind) (mCons (mFz (mSlice (mVar 0) (moSome (mVar 1)) (moSome (mOp dAdd (mVar 1) (mC (.int 1)))))) (mNil))))) (msAug 2 dIAdd (mOp dIx (mVar 0) (mVar 1))))
    (msAug 1 dIAdd (mC (.int 1)))
noncomputable def m_quote_at : MF := fnM 3 (msCons (msIf (mTb (mOp (dEq true) (mFz (mSlice (mVar 0) (moSome (mVar 1)) (moSome (mOp dAdd (mVar 1) (mC (.int 1)))))) (mC (.str [60])))) (msRaise "NoQuote") (msNil))
    (msCons (msSet 2 (mC (.str [])))
    (msCons (msAug 1 dIAdd (mC (.int 1)))
    (msCons (msWhile t_quote_at_1 b_quote_at_2)
    (msCons (msIf (mTb (mOp (dEq true) (mFz (mSlice (mVar 0) (moSome (mVar 1)) (moSome (mOp dAdd (mVar 1) (mC (.int 1)))))) (mC (.str [62])))) (msRaise "NoQuote") (msNil))
    (msRet (mTup (mCons (mVar 2) (mCons (mOp dAdd (mVar 1) (mC (.int 1))) (mNil))))))))))
theorem sc_quote_at : FnScope ["text", "at", "told"] ["text", "at"] (defScope (topS 41)) := ⟨rfl, rfl, rfl, by decide +kernel, rfl, by decide +kernel, by decide +kernel⟩
theorem okf_quote_at {P : Program} {w : World} {K : PySem.W.Frag} {mg : Str → Option Value} {base : Heap} {cl : Str → Addr} {f : Addr} {fd : FuncData} (F : Fun K "quote_at" "quote_at" (topS 41) f fd) (z_len : mg "len" = none) (x_NoQuote : ExC1 K mg "NoQuote" (cl "NoQuote")) (F_sign_behind : FnG P w K mg base ⟨K, cl⟩ "sign_behind" 1 1 m_sign_behind) : FnOk P w K mg base (L2.CX P w) 2 f fd ["text", "at"] (FSp ⟨K, cl⟩ 2 m_quote_at) :=
  fnPM F sc_quote_at rfl fun cdv A outer s H E hr tk hp => mss_cons (ms_if (mt_cmp (op_neP hr.units) (dNe_ok rfl) (me_fz (me_slice rfl (me_var 0) (moS (me_var 1)) (moS (me_add rfl (me_var 1) (me_int))))) (me_str [60])) (mss_one (ms_raise rfl tk x_NoQuote)) (mss_nil))
    (mss_cons (ms_set 2 sc_quote_at.nd (me_str []))
    (mss_cons (ms_aug 1 sc_quote_at.nd iop_addA iadd_ok (me_int))
    (mss_cons (ms_while hp (mt_w (mw_and (mt_cmp op_lt opS_C (me_var 1) (me_callB call_lenA bLen_ok z_len (by decide +kernel) (ma_cons (me_var 0) (ma_nil)))) (mw_and1 (mt_cmp (op_notInA hr.units) (dIn_ok rfl true) (me_ix rfl (me_var 0) (me_var 1)) (me_tup (ma_cons (me_str [62]) (ma_cons (me_str [10]) (ma_nil)))))))) (mss_cons (ms_if (mt_cmp (op_eqP hr.units) (dEq_ok rfl) (me_ix rfl (me_var 0) (me_var 1)) (me_str [92])) (mss_cons (ms_aug 1 sc_quote_at.nd iop_addA iadd_ok (me_int))
    (mss_one (ms_aug 2 sc_quote_at.nd iop_addA iadd_ok (me_callG F_sign_behind hr (by decide) tk (ma_cons (me_fz (me_slice rfl (me_var 0) (moS (me_var 1)) (moS (me_add rfl (me_var 1) (me_int))))) (ma_nil)))))) (mss_one (ms_aug 2 sc_quote_at.nd iop_addA iadd_ok (me_ix rfl (me_var 0) (me_var 1)))))
    (mss_one (ms_aug 1 sc_quote_at.nd iop_addA iadd_ok (me_int)))))
    (mss_cons (ms_if (mt_cmp (op_neP hr.units) (dNe_ok rfl) (me_fz (me_slice rfl (me_var 0) (moS (me_var 1)) (moS (me_add rfl (me_var 1) (me_int))))) (me_str [62])) (mss_one (ms_raise rfl tk x_NoQuote)) (mss_nil))
    (mss_one (ms_ret (me_tup (ma_cons (me_var 2) (ma_cons (me_add rfl (me_var 1) (me_int)) (ma_nil))))))))))
theorem ok_quote_at {P : Program} {w : World} {K : PySem.W.Frag} {mg : Str → Option Value} {base : Heap} {cl : Str → Addr} (d : DefAt K mg "quote_at" (topS 41) ["text", "at"]) (z_len : mg "len" = none) (x_NoQuote : ExC1 K mg "NoQuote" (cl "NoQuote")) (F_sign_behind : FnG P w K mg base ⟨K, cl⟩ "sign_behind" 1 1 m_sign_behind) : FnG P w K mg base ⟨K, cl⟩ "quote_at" 2 2 m_quote_at := d.fn fun f fd F => okf_quote_at F z_len x_NoQuote F_sign_behind
/-! _law_tongue -/
noncomputable def b__law_tongue_1 : MS := msCons (msSet 5 (mCall 2 (m__law_take) (mCons (mVar 0) (mCons (mB bLen (mCons (mVar 1) (mNil))) (mNil)))))
    (msCons (msSet 3 (mFz (mOp dAdd (mVar 3) (mOp dIx (mVar 1) (mVar 5)))))
    (msSet 1 (mFz (mOp dAdd (mFz (mSlice (mVar 1) (moNone) (moSome (mVar 5)))) (mFz (mSlice (mVar 1) (moSome (mOp dAdd (mVar 5) (mC (.int 1)))) (moNone)))))))
noncomputable def m__law_tongue : MF := fnM 6 (msCons (msSet 1 (mFz (mSlice (mCall 0 (m__law_signs) mNil) (moNone) (moSome (mNeg (mC (.int 1)))))))
    (msCons (msSet 2 (mC (.str [])))
    (msCons (msIf (mTb (mOp (dEq false) (mCall 2 (m__law_take) (mCons (mVar 0) (mCons (mC (.int 2)) (mNil)))) (mC (.int 0)))) (msCons (msSet 1 (mC (.str [60, 62, 92, 32, 97, 98, 110])))
    (msSet 2 (mC (.str [10])))) (msNil))
    (msCons (msSet 3 (mC (.str [])))
    (msCons (msFor (iRange1 (mCons (mOp dAdd (mC (.int 1)) (mCall 2 (m__law_take) (mCons (mVar 0) (mCons (mC (.int 5)) (mNil))))) (mNil))) (gSet 4) b__law_tongue_1)
    (msCons (msSet 5 (mCall 2 (m__law_take) (mCons (mVar 0) (mCons (mOp dAdd (mB bLen (mCons (mVar 3) (mNil))) (mC (.int 1))) (mNil)))))
    (msRet (mFz (mOp dAdd (mFz (mOp dAdd (mFz (mSlice (mVar 3) (moNone) (moSome (mVar 5)))) (mVar 2))) (mFz (mSlice (mVar 3) (moSome (mVar 5)) (moNone))))))))))))
theorem sc__law_tongue : FnScope ["_law_hand_here", "_law_rest", "_law_more", "_law_tongue_here", "_law_turn", "_law_at"] ["_law_hand_here"] (defScope (topS 65)) := ⟨rfl, rfl, rfl, by decide +kernel, rfl, by decide +kernel, by decide +kernel⟩
theorem okf__law_tongue {P : Program} {w : World} {K : PySem.W.Frag} {mg : Str → Option Value} {base : Heap} {cl : Str → Addr} {f : Addr} {fd : FuncData} (F : Fun K "_law_tongue" "_law_tongue" (topS 65) f fd) (z_range : mg "range" = none) (z_len : mg "len" = none) (F__law_signs : FnG P w K mg base ⟨K, cl⟩ "_law_signs" 1 0 m__law_signs) (F__law_take : FnG P w K mg base ⟨K, cl⟩ "_law_take" 1 2 m__law_take) : FnOk P w K mg base (L2.CX P w) 2 f fd ["_law_hand_here"] (FSp ⟨K, cl⟩ 1 m__law_tongue) :=
  fnPM F sc__law_tongue rfl fun cdv A outer s H E hr tk hp => mss_cons (ms_set 1 sc__law_tongue.nd (me_fz (me_slice rfl (me_callG0 F__law_signs hr (by decide) tk) (moN) (moS (me_neg (me_int))))))
    (mss_cons (ms_set 2 sc__law_tongue.nd (me_str []))
    (mss_cons (ms_if (mt_cmp (op_eqP hr.units) (dEq_ok rfl) (me_callG F__law_take hr (by decide) tk (ma_cons (me_var 0) (ma_cons (me_int) (ma_nil)))) (me_int)) (mss_cons (ms_set 1 sc__law_tongue.nd (me_str [60, 62, 92, 32, 97, 98, 110]))
    (mss_one (ms_set 2 sc__law_tongue.nd (me_str [10])))) (mss_nil))
    (mss_cons (ms_set 3 sc__law_tongue.nd (me_str []))
    (mss_cons (ms_for rfl hp (mi_range1 (ma_cons (me_add rfl (me_int) (me_callG F__law_take hr (by decide) tk (ma_cons (me_var 0) (ma_cons (me_int) (ma_nil))))) (ma_nil)) z_range) (mg_name 4 sc__law_tongue.nd) (mss_cons (ms_set 5 sc__law_tongue.nd (me_callG F__law_take hr (by decide) tk (ma_cons (me_var 0) (ma_cons (me_callB call_lenA bLen_ok z_len (by decide +kernel) (ma_cons (me_var 1) (ma_nil))) (ma_nil)))))
    (mss_cons (ms_set 3 sc__law_tongue.nd (me_fz (me_add rfl (me_var 3) (me_ix rfl (me_var 1) (me_var 5)))))
    (mss_one (ms_set 1 sc__law_tongue.nd (me_fz (me_add rfl (me_fz (me_slice rfl (me_var 1) (moN) (moS (me_var 5)))) (me_fz (me_slice rfl (me_var 1) (moS (me_add rfl (me_var 5) (me_int))) (moN))))))))))
    (mss_cons (ms_set 5 sc__law_tongue.nd (me_callG F__law_take hr (by decide) tk (ma_cons (me_var 0) (ma_cons (me_add rfl (me_callB call_lenA bLen_ok z_len (by decide +kernel) (ma_cons (me_var 3) (ma_nil))) (me_int)) (ma_nil)))))
    (mss_one (ms_ret (me_fz (me_add rfl (me_fz (me_add rfl (me_fz (me_slice rfl (me_var 3) (moN) (moS (me_var 5)))) (me_var 2))) (me_fz (me_slice rfl (me_var 3) (moS (me_var 5)) (moN))))))))))))
theorem ok__law_tongue {P : Program} {w : World} {K : PySem.W.Frag} {mg : Str → Option Value} {base : Heap} {cl : Str → Addr} (d : DefAt K mg "_law_tongue" (topS 65) ["_law_hand_here"]) (z_range : mg "range" = none) (z_len : mg "len" = none) (F__law_signs : FnG P w K mg base ⟨K, cl⟩ "_law_signs" 1 0 m__law_signs) (F__law_take : FnG P w K mg base ⟨K, cl⟩ "_law_take" 1 2 m__law_take) : FnG P w K mg base ⟨K, cl⟩ "_law_tongue" 2 1 m__law_tongue := d.fn fun f fd F => okf__law_tongue F z_range z_len F__law_signs F__law_take
/-! _law_one -/
noncomputable def b__law_one_1 : MS := msCons (msSet 5 (mCall 2 (m__law_take) (mCons (mVar 0) (mCons (mB bLen (mCons (mVar 2) (mNil))) (mNil)))))
    (msCons (msSet 3 (mFz (mOp dAdd (mVar 3) (mOp dIx (mVar 2) (mVar 5)))))
    (msSet 2 (mFz (mOp dAdd (mFz (mSlice (mVar 2) (moNone) (moSome (mVar 5)))) (mFz (mSlice (mVar 2) (moSome (mOp dAdd (mVar 5) (mC (.int 1)))) (moNone)))))))
noncomputable def m__law_one : MF := fnM 6 (msCons (msSet 2 (mVar 1))
    (msCons (msSet 3 (mC (.str [])))
    (msCons (msFor (iRange1 (mCons (mOp dAdd (mC (.int 1)) (mCall 2 (m__law_take) (mCons (mVar 0) (mCons (mB bLen (mCons (mVar 1) (mNil))) (mNil))))) (mNil))) (gSet 4) b__law_one_1)
    (msRet (mTup (mCons (mC (.str [111, 110, 101])) (mCons (mVar 3) (mNil))))))))
theorem sc__law_one : FnScope ["_law_hand_here", "_law_tongue_here", "_law_rest", "_law_signs_here", "_law_turn", "_law_at"] ["_law_hand_here", "_law_tongue_here"] (defScope (topS 66)) := ⟨rfl, rfl, rfl, by decide +kernel, rfl, by decide +kernel, by decide +kernel⟩
theorem okf__law_one {P : Program} {w : World} {K : PySem.W.Frag} {mg : Str → Option Value} {base : Heap} {cl : Str → Addr} {f : Addr} {fd : FuncData} (F : Fun K "_law_one" "_law_one" (topS 66) f fd) (z_len : mg "len" = none) (z_range : mg "range" = none) (F__law_take : FnG P w K mg base ⟨K, cl⟩ "_law_take" 1 2 m__law_take) : FnOk P w K mg base (L2.CX P w) 2 f fd ["_law_hand_here", "_law_tongue_here"] (FSp ⟨K, cl⟩ 2 m__law_one) :=
  fnPM F sc__law_one rfl fun cdv A outer s H E hr tk hp => mss_cons (ms_set 2 sc__law_one.nd (me_var 1))
    (mss_cons (ms_set 3 sc__law_one.nd (me_str []))
    (mss_cons (ms_for rfl hp (mi_range1 (ma_cons (me_add rfl (me_int) (me_callG F__law_take hr (by decide) tk (ma_cons (me_var 0) (ma_cons (me_callB call_lenA bLen_ok z_len (by decide +kernel) (ma_cons (me_var 1) (ma_nil))) (ma_nil))))) (ma_nil)) z_range) (mg_name 4 sc__law_one.nd) (mss_cons (ms_set 5 sc__law_one.nd (me_callG F__law_take hr (by decide) tk (ma_cons (me_var 0) (ma_cons (me_callB call_lenA bLen_ok z_len (by decide +kernel) (ma_cons (me_var 2) (ma_nil))) (ma_nil)))))
    (mss_cons (ms_set 3 sc__law_one.nd (me_fz (me_add rfl (me_var 3) (me_ix rfl (me_var 2) (me_var 5)))))
    (mss_one (ms_set 2 sc__law_one.nd (me_fz (me_add rfl (me_fz (me_slice rfl (me_var 2) (moN) (moS (me_var 5)))) (me_fz (me_slice rfl (me_var 2) (moS (me_add rfl (me_var 5) (me_int))) (moN))))))))))
    (mss_one (ms_ret (me_tup (ma_cons (me_str [111, 110, 101]) (ma_cons (me_var 3) (ma_nil))))))))
theorem ok__law_one {P : Program} {w : World} {K : PySem.W.Frag} {mg : Str → Option Value} {base : Heap} {cl : Str → Addr} (d : DefAt K mg "_law_one" (topS 66) ["_law_hand_here", "_law_tongue_here"]) (z_len : mg "len" = none) (z_range : mg "range" = none) (F__law_take : FnG P w K mg base ⟨K, cl⟩ "_law_take" 1 2 m__law_take) : FnG P w K mg base ⟨K, cl⟩ "_law_one" 2 2 m__law_one := d.fn fun f fd F => okf__law_one F z_len z_range F__law_take
/-! _law_name -/
noncomputable def e__law_name_1 : ME := mOp dIx (mVar 2) (mCall 2 (m__law_take) (mCons (mVar 0) (mCons (mC (.int 26)) (mNil))))
noncomputable def t__law_name_2 : MT := mTb (mOp (dIn true) (mVar 5) (mVar 1))
noncomputable def e__law_name_3 : ME := mVar 5
noncomputable def m__law_name : MF := fnM 6 (msCons (msSet 2 (mC (.str [97, 98, 99, 100, 101, 102, 103, 104, 105, 106, 107, 108, 109, 110, 111, 112, 113, 114, 115, 116, 117, 118, 119, 120, 121, 122])))
    (msCons (msSet 3 (mMeth "str" fJoin (mC (.str [])) (mCons (mFz (mLc (iRange1 (mCons (mOp dAdd (mC (.int 1)) (mCall 2 (m__law_take) (mCons (mVar 0) (mCons (mC (.int 8)) (mNil))))) (mNil))) (gSet 4) mYes e__law_name_1 [4])) (mNil))))
    (msCons (msIf (mTb (mOp (dIn false) (mVar 3) (mVar 1))) (msRet (mOp dIx (mFz (mLc (iSeq (mVar 2)) (gSet 5) t__law_name_2 e__law_name_3 [5])) (mC (.int 0)))) (msNil))
    (msRet (mVar 3)))))
theorem sc__law_name : FnScope ["_law_hand_here", "_law_names", "_law_some", "_law_name_here", "_law_turn", "_law_one_here"] ["_law_hand_here", "_law_names"] (defScope (topS 68)) := ⟨rfl, rfl, rfl, by decide +kernel, rfl, by decide +kernel, by decide +kernel⟩
theorem okf__law_name {P : Program} {w : World} {K : PySem.W.Frag} {mg : Str → Option Value} {base : Heap} {cl : Str → Addr} {f : Addr} {fd : FuncData} (F : Fun K "_law_name" "_law_name" (topS 68) f fd) (z_range : mg "range" = none) (F__law_take : FnG P w K mg base ⟨K, cl⟩ "_law_take" 1 2 m__law_take) : FnOk P w K mg base (L2.CX P w) 2 f fd ["_law_hand_here", "_law_names"] (FSp ⟨K, cl⟩ 2 m__law_name) :=
  fnPM F sc__law_name rfl fun cdv A outer s H E hr tk hp => mss_cons (ms_set 2 sc__law_name.nd (me_str [97, 98, 99, 100, 101, 102, 103, 104, 105, 106, 107, 108, 109, 110, 111, 112, 113, 114, 115, 116, 117, 118, 119, 120, 121, 122]))
    (mss_cons (ms_set 3 sc__law_name.nd (me_meth rfl PySem.F.plainAttrs_str PySem.F.slot_str_join PySem.F.type_str_join mt_join fJoin_ok (me_str []) (ma_cons (me_fz (me_lc (own := [("_law_turn", 4)]) rfl sc__law_name.nd (mi_range1 (ma_cons (me_add rfl (me_int) (me_callG F__law_take hr (by decide) tk (ma_cons (me_var 0) (ma_cons (me_int) (ma_nil))))) (ma_nil)) z_range) (blkOk_by (N := ["_law_hand_here", "_law_names", "_law_some", "_law_name_here", "_law_turn", "_law_one_here"]) (sc := defScope (topS 68)) (by decide +kernel)) (fun _ _ _ _ _ => mg_name 4 sc__law_name.nd) (fun _ _ _ _ _ => mts_nil) (fun _ _ _ _ _ => me_ix rfl (me_var 2) (me_callG F__law_take hr (by decide) takes0 (ma_cons (me_var 0) (ma_cons (me_int) (ma_nil))))))) (ma_nil))))
    (mss_cons (ms_if (mt_cmp (op_inA hr.units) (dIn_ok rfl false) (me_var 3) (me_var 1)) (mss_one (ms_ret (me_ix rfl (me_fz (me_lc (own := [("_law_one_here", 5)]) rfl sc__law_name.nd (mi_seq rfl (me_var 2)) (blkOk_by (N := ["_law_hand_here", "_law_names", "_law_some", "_law_name_here", "_law_turn", "_law_one_here"]) (sc := defScope (topS 68)) (by decide +kernel)) (fun _ _ _ _ _ => mg_name 5 sc__law_name.nd) (fun _ _ _ _ _ => mts_one (mt_cmp (op_notInA hr.units) (dIn_ok rfl true) (me_var 5) (me_var 1))) (fun _ _ _ _ _ => me_var 5))) (me_int)))) (mss_nil))
    (mss_one (ms_ret (me_var 3)))))
theorem ok__law_name {P : Program} {w : World} {K : PySem.W.Frag} {mg : Str → Option Value} {base : Heap} {cl : Str → Addr} (d : DefAt K mg "_law_name" (topS 68) ["_law_hand_here", "_law_names"]) (z_range : mg "range" = none) (F__law_take : FnG P w K mg base ⟨K, cl⟩ "_law_take" 1 2 m__law_take) : FnG P w K mg base ⟨K, cl⟩ "_law_name" 2 2 m__law_name := d.fn fun f fd F => okf__law_name F z_range F__law_take
/-! is_form -/
noncomputable def m_is_form : MF := fnM 1 (msCons (msIf (mOr (mNot (mTr (mIs "tuple" (mVar 0)))) (mOr (mTb (mOp dLt (mB bLen (mCons (mVar 0) (mNil))) (mC (.int 2)))) (mNot (mTr (mIs "str" (mOp dIx (mVar 0) (mC (.int 0)))))))) (msRet (mC (.bl false))) (msNil))
    (msCons (msIf (mTb (mOp (dEq false) (mOp dIx (mVar 0) (mC (.int 0))) (mC (.str [116, 105, 109, 101, 115])))) (msRet (mAndV (mOp (dEq false) (mB bLen (mCons (mVar 0) (mNil))) (mC (.int 4))) (mCall 2 (m_are_times) (mCons (mOp dIx (mVar 0) (mC (.int 2))) (mCons (mOp dIx (mVar 0) (mC (.int 3))) (mNil)))))) (msNil))
    (msCons (msIf (mTb (mOp (dEq true) (mB bLen (mCons (mVar 0) (mNil))) (mC (.int 2)))) (msRet (mC (.bl false))) (msNil))
    (msCons (msIf (mTb (mOp (dEq false) (mOp dIx (mVar 0) (mC (.int 0))) (mC (.str [111, 110, 101])))) (msRet (mCall 1 (m_is_tongue) (mCons (mOp dIx (mVar 0) (mC (.int 1))) (mNil)))) (msNil))
    (msCons (msIf (mTb (mOp (dEq false) (mOp dIx (mVar 0) (mC (.int 0))) (mC (.str [114, 111, 119])))) (msRet (mCall 2 (m_are_some) (mCons (mOp dIx (mVar 0) (mC (.int 1))) (mCons (mC (.int 0)) (mNil))))) (msNil))
    (msCons (msIf (mTb (mOp (dEq false) (mOp dIx (mVar 0) (mC (.int 0))) (mC (.str [101, 105, 116, 104, 101, 114])))) (msRet (mCall 2 (m_are_some) (mCons (mOp dIx (mVar 0) (mC (.int 1))) (mCons (mC (.int 1)) (mNil))))) (msNil))
    (msRet (mOp (dEq false) (mOp dIx (mVar 0) (mC (.int 0))) (mC (.str [109, 97, 110, 121]))))))))))
theorem sc_is_form : FnScope ["thing"] ["thing"] (defScope (topS 20)) := ⟨rfl, rfl, rfl, by decide +kernel, rfl, by decide +kernel, by decide +kernel⟩
theorem okf_is_form {P : Program} {w : World} {K : PySem.W.Frag} {mg : Str → Option Value} {base : Heap} {cl : Str → Addr} {f : Addr} {fd : FuncData} (F : Fun K "is_form" "is_form" (topS 20) f fd) (z_isinstance : mg "isinstance" = none) (z_tuple : mg "tuple" = none) (z_len : mg "len" = none) (z_str : mg "str" = none) (F_are_times : FnG P w K mg base ⟨K, cl⟩ "are_times" 2 2 m_are_times) (F_is_tongue : FnG P w K mg base ⟨K, cl⟩ "is_tongue" 1 1 m_is_tongue) (F_are_some : FnG P w K mg base ⟨K, cl⟩ "are_some" 1 2 m_are_some) : FnOk P w K mg base (L2.CX P w) 3 f fd ["thing"] (FSp ⟨K, cl⟩ 1 m_is_form) :=
  fnPM F sc_is_form rfl fun cdv A outer s H E hr tk hp => mss_cons (ms_if (mt_w (mw_or (mt_not (mt_val rfl (me_is rfl (me_var 0) z_isinstance z_tuple))) (mw_or (mt_cmp op_lt opS_C (me_callB call_lenA bLen_ok z_len (by decide +kernel) (ma_cons (me_var 0) (ma_nil))) (me_int)) (mw_or1 (mt_not (mt_val rfl (me_is rfl (me_ix rfl (me_var 0) (me_int)) z_isinstance z_str))))))) (mss_one (ms_ret (me_bl))) (mss_nil))
    (mss_cons (ms_if (mt_cmp (op_eqP hr.units) (dEq_ok rfl) (me_ix rfl (me_var 0) (me_int)) (me_str [116, 105, 109, 101, 115])) (mss_one (ms_ret (me_and (me_cmp (op_eqP hr.units) (dEq_ok rfl) (me_callB call_lenA bLen_ok z_len (by decide +kernel) (ma_cons (me_var 0) (ma_nil))) (me_int)) (me_one (me_callG F_are_times hr (by decide) tk (ma_cons (me_ix rfl (me_var 0) (me_int)) (ma_cons (me_ix rfl (me_var 0) (me_int)) (ma_nil)))))))) (mss_nil))
    (mss_cons (ms_if (mt_cmp (op_neP hr.units) (dNe_ok rfl) (me_callB call_lenA bLen_ok z_len (by decide +kernel) (ma_cons (me_var 0) (ma_nil))) (me_int)) (mss_one (ms_ret (me_bl))) (mss_nil))
    (mss_cons (ms_if (mt_cmp (op_eqP hr.units) (dEq_ok rfl) (me_ix rfl (me_var 0) (me_int)) (me_str [111, 110, 101])) (mss_one (ms_ret (me_callG F_is_tongue hr (by decide) tk (ma_cons (me_ix rfl (me_var 0) (me_int)) (ma_nil))))) (mss_nil))
    (mss_cons (ms_if (mt_cmp (op_eqP hr.units) (dEq_ok rfl) (me_ix rfl (me_var 0) (me_int)) (me_str [114, 111, 119])) (mss_one (ms_ret (me_callG F_are_some hr (by decide) tk (ma_cons (me_ix rfl (me_var 0) (me_int)) (ma_cons (me_int) (ma_nil)))))) (mss_nil))
    (mss_cons (ms_if (mt_cmp (op_eqP hr.units) (dEq_ok rfl) (me_ix rfl (me_var 0) (me_int)) (me_str [101, 105, 116, 104, 101, 114])) (mss_one (ms_ret (me_callG F_are_some hr (by decide) tk (ma_cons (me_ix rfl (me_var 0) (me_int)) (ma_cons (me_int) (ma_nil)))))) (mss_nil))
    (mss_one (ms_ret (me_cmp (op_eqP hr.units) (dEq_ok rfl) (me_ix rfl (me_var 0) (me_int)) (me_str [109, 97, 110, 121])))))))))
theorem ok_is_form {P : Program} {w : World} {K : PySem.W.Frag} {mg : Str → Option Value} {base : Heap} {cl : Str → Addr} (d : DefAt K mg "is_form" (topS 20) ["thing"]) (z_isinstance : mg "isinstance" = none) (z_tuple : mg "tuple" = none) (z_len : mg "len" = none) (z_str : mg "str" = none) (F_are_times : FnG P w K mg base ⟨K, cl⟩ "are_times" 2 2 m_are_times) (F_is_tongue : FnG P w K mg base ⟨K, cl⟩ "is_tongue" 1 1 m_is_tongue) (F_are_some : FnG P w K mg base ⟨K, cl⟩ "are_some" 1 2 m_are_some) : FnG P w K mg base ⟨K, cl⟩ "is_form" 3 1 m_is_form := d.fn fun f fd F => okf_is_form F z_isinstance z_tuple z_len z_str F_are_times F_is_tongue F_are_some
/-! unquoted -/
noncomputable def m_unquoted : MF := fnM 3 (msCons (msSetT (gSets [1, 2]) (mCall 2 (m_quote_at) (mCons (mVar 0) (mCons (mC (.int 0)) (mNil)))))
    (msCons (msIf (mTb (mOp (dEq true) (mVar 2) (mB bLen (mCons (mVar 0) (mNil))))) (msRaise "NoQuote") (msNil))
    (msRet (mVar 1))))
theorem sc_unquoted : FnScope ["text", "told", "end"] ["text"] (defScope (topS 42)) := ⟨rfl, rfl, rfl, by decide +kernel, rfl, by decide +kernel, by decide +kernel⟩
theorem okf_unquoted {P : Program} {w : World} {K : PySem.W.Frag} {mg : Str → Option Value} {base : Heap} {cl : Str → Addr} {f : Addr} {fd : FuncData} (F : Fun K "unquoted" "unquoted" (topS 42) f fd) (z_len : mg "len" = none) (x_NoQuote : ExC1 K mg "NoQuote" (cl "NoQuote")) (F_quote_at : FnG P w K mg base ⟨K, cl⟩ "quote_at" 2 2 m_quote_at) : FnOk P w K mg base (L2.CX P w) 3 f fd ["text"] (FSp ⟨K, cl⟩ 1 m_unquoted) :=
  fnPM F sc_unquoted rfl fun cdv A outer s H E hr tk hp => mss_cons (ms_setT (me_callG F_quote_at hr (by decide) tk (ma_cons (me_var 0) (ma_cons (me_int) (ma_nil)))) (mg_tup rfl rfl (.cons (pg_name (i := 1) sc_unquoted.nd rfl (by first | exact Or.inl rfl | exact Or.inr rfl)) (.cons (pg_name (i := 2) sc_unquoted.nd rfl (by first | exact Or.inl rfl | exact Or.inr rfl)) (.nil) rfl) rfl)))
    (mss_cons (ms_if (mt_cmp (op_neP hr.units) (dNe_ok rfl) (me_var 2) (me_callB call_lenA bLen_ok z_len (by decide +kernel) (ma_cons (me_var 0) (ma_nil)))) (mss_one (ms_raise rfl tk x_NoQuote)) (mss_nil))
    (mss_one (ms_ret (me_var 1))))
theorem ok_unquoted {P : Program} {w : World} {K : PySem.W.Frag} {mg : Str → Option Value} {base : Heap} {cl : Str → Addr} (d : DefAt K mg "unquoted" (topS 42) ["text"]) (z_len : mg "len" = none) (x_NoQuote : ExC1 K mg "NoQuote" (cl "NoQuote")) (F_quote_at : FnG P w K mg base ⟨K, cl⟩ "quote_at" 2 2 m_quote_at) : FnG P w K mg base ⟨K, cl⟩ "unquoted" 3 1 m_unquoted := d.fn fun f fd F => okf_unquoted F z_len x_NoQuote F_quote_at
/-! one_at -/
noncomputable def b_one_at_1 : MS := msSetT (gSets [2, 3]) (mCall 2 (m_quote_at) (mCons (mVar 0) (mCons (mVar 1) (mNil))))
noncomputable def s_one_at_2 : Str → MS := fun c => msNoS
noncomputable def m_one_at : MF := fnM 4 (msCons (msTry hT "NoQuote" b_one_at_1 s_one_at_2)
    (msRet (mTup (mCons (mTup (mCons (mC (.str [111, 110, 101])) (mCons (mVar 2) (mNil)))) (mCons (mVar 3) (mNil))))))
theorem sc_one_at : FnScope ["text", "at", "signs", "end"] ["text", "at"] (defScope (topS 46)) := ⟨rfl, rfl, rfl, by decide +kernel, rfl, by decide +kernel, by decide +kernel⟩
theorem okf_one_at {P : Program} {w : World} {K : PySem.W.Frag} {mg : Str → Option Value} {base : Heap} {cl : Str → Addr} {f : Addr} {fd : FuncData} (F : Fun K "one_at" "one_at" (topS 46) f fd) (m_NoQuote : mg "NoQuote" = some (.ref (cl "NoQuote"))) (F_hT : ExH K cl hT) (F_quote_at : FnG P w K mg base ⟨K, cl⟩ "quote_at" 2 2 m_quote_at) : FnOk P w K mg base (L2.CX P w) 3 f fd ["text", "at"] (FSp ⟨K, cl⟩ 2 m_one_at) :=
  fnPM F sc_one_at rfl fun cdv A outer s H E hr tk hp => mss_cons (ms_try rfl rfl F_hT m_NoQuote tk (fun W pn xe tk hp => mss_one (ms_setT (me_callG F_quote_at hr (by decide) tk (ma_cons (me_var 0) (ma_cons (me_var 1) (ma_nil)))) (mg_tup rfl rfl (.cons (pg_name (i := 2) sc_one_at.nd rfl (by first | exact Or.inl rfl | exact Or.inr rfl)) (.cons (pg_name (i := 3) sc_one_at.nd rfl (by first | exact Or.inl rfl | exact Or.inr rfl)) (.nil) rfl) rfl)))) (fun c a oe pn hz hf => mss_one (ms_noS)))
    (mss_one (ms_ret (me_tup (ma_cons (me_tup (ma_cons (me_str [111, 110, 101]) (ma_cons (me_var 2) (ma_nil)))) (ma_cons (me_var 3) (ma_nil))))))
theorem ok_one_at {P : Program} {w : World} {K : PySem.W.Frag} {mg : Str → Option Value} {base : Heap} {cl : Str → Addr} (d : DefAt K mg "one_at" (topS 46) ["text", "at"]) (m_NoQuote : mg "NoQuote" = some (.ref (cl "NoQuote"))) (F_hT : ExH K cl hT) (F_quote_at : FnG P w K mg base ⟨K, cl⟩ "quote_at" 2 2 m_quote_at) : FnG P w K mg base ⟨K, cl⟩ "one_at" 3 2 m_one_at := d.fn fun f fd F => okf_one_at F m_NoQuote F_hT F_quote_at
/-! tongue_in -/
noncomputable def b_tongue_in_1 : MS := msSet 1 (mCall 1 (m_unquoted) (mCons (mFz (mSlice (mVar 0) (moSome (mC (.int 7))) (moNone))) (mNil)))
noncomputable def s_tongue_in_2 : Str → MS := fun c => msRet (mC .non)
noncomputable def m_tongue_in : MF := fnM 2 (msCons (msIf (mNot (mTr (mMeth "str" fStarts (mVar 0) (mCons (mC (.str [116, 111, 110, 103, 117, 101, 32])) (mNil))))) (msRet (mC .non)) (msNil))
    (msCons (msTry hT "NoQuote" b_tongue_in_1 s_tongue_in_2)
    (msCons (msIf (mNot (mTr (mCall 1 (m_is_tongue) (mCons (mVar 1) (mNil))))) (msRet (mC .non)) (msNil))
    (msRet (mVar 1)))))
theorem sc_tongue_in : FnScope ["line", "tongue"] ["line"] (defScope (topS 55)) := ⟨rfl, rfl, rfl, by decide +kernel, rfl, by decide +kernel, by decide +kernel⟩
theorem okf_tongue_in {P : Program} {w : World} {K : PySem.W.Frag} {mg : Str → Option Value} {base : Heap} {cl : Str → Addr} {f : Addr} {fd : FuncData} (F : Fun K "tongue_in" "tongue_in" (topS 55) f fd) (m_NoQuote : mg "NoQuote" = some (.ref (cl "NoQuote"))) (F_hT : ExH K cl hT) (F_unquoted : FnG P w K mg base ⟨K, cl⟩ "unquoted" 3 1 m_unquoted) (F_is_tongue : FnG P w K mg base ⟨K, cl⟩ "is_tongue" 1 1 m_is_tongue) : FnOk P w K mg base (L2.CX P w) 4 f fd ["line"] (FSp ⟨K, cl⟩ 1 m_tongue_in) :=
  fnPM F sc_tongue_in rfl fun cdv A outer s H E hr tk hp => mss_cons (ms_if (mt_not (mt_val rfl (me_meth rfl PySem.F.plainAttrs_str PySem.F.slot_str_startswith PySem.F.type_str_startswith mt_startswith fStarts_ok (me_var 0) (ma_cons (me_str [116, 111, 110, 103, 117, 101, 32]) (ma_nil))))) (mss_one (ms_ret (me_non))) (mss_nil))
    (mss_cons (ms_try rfl rfl F_hT m_NoQuote tk (fun W pn xe tk hp => mss_one (ms_set 1 sc_tongue_in.nd (me_callG F_unquoted hr (by decide) tk (ma_cons (me_fz (me_slice rfl (me_var 0) (moS (me_int)) (moN))) (ma_nil))))) (fun c a oe pn hz hf => mss_one (ms_ret (me_non))))
    (mss_cons (ms_if (mt_not (mt_val rfl (me_callG F_is_tongue hr (by decide) tk (ma_cons (me_var 1) (ma_nil))))) (mss_one (ms_ret (me_non))) (mss_nil))
    (mss_one (ms_ret (me_var 1)))))
theorem ok_tongue_in {P : Program} {w : World} {K : PySem.W.Frag} {mg : Str → Option Value} {base : Heap} {cl : Str → Addr} (d : DefAt K mg "tongue_in" (topS 55) ["line"]) (m_NoQuote : mg "NoQuote" = some (.ref (cl "NoQuote"))) (F_hT : ExH K cl hT) (F_unquoted : FnG P w K mg base ⟨K, cl⟩ "unquoted" 3 1 m_unquoted) (F_is_tongue : FnG P w K mg base ⟨K, cl⟩ "is_tongue" 1 1 m_is_tongue) : FnG P w K mg base ⟨K, cl⟩ "tongue_in" 4 1 m_tongue_in := d.fn fun f fd F => okf_tongue_in F m_NoQuote F_hT F_unquoted F_is_tongue
/-! is_of -/
noncomputable def t_is_of_1 (r_is_of : MF) : MT := mTb (mOp (dIn true) (mVar 2) (mVar 1))
noncomputable def e_is_of_2 (r_is_of : MF) : ME := mVar 2
noncomputable def t_is_of_3 (r_is_of : MF) : MT := mNot (mTr (mCall 2 (r_is_of) (mCons (mVar 3) (mCons (mVar 1) (mNil)))))
noncomputable def e_is_of_4 (r_is_of : MF) : ME := mVar 3
noncomputable def B_is_of (r_is_of : MF) : MF := fnM 4 (msCons (msIf (mTb (mOp (dEq false) (mOp dIx (mVar 0) (mC (.int 0))) (mC (.str [111, 110, 101])))) (msRet (mOp (dEq false) (mFz (mLc (iSeq (mOp dIx (mVar 0) (mC (.int 1)))) (gSet 2) (t_is_of_1 r_is_of) (e_is_of_2 r_is_of) [2])) (mFz (mLst (mNil))))) (msNil))
    (msCons (msIf (mTb (mOp (dIn false) (mOp dIx (mVar 0) (mC (.int 0))) (mTup (mCons (mC (.str [114, 111, 119])) (mCons (mC (.str [101, 105, 116, 104, 101, 114])) (mNil)))))) (msRet (mOp (dEq false) (mFz (mLc (iSeq (mOp dIx (mVar 0) (mC (.int 1)))) (gSet 3) (t_is_of_3 r_is_of) (e_is_of_4 r_is_of) [3])) (mFz (mLst (mNil))))) (msNil))
    (msRet (mCall 2 (r_is_of) (mCons (mOp dIx (mVar 0) (mC (.int 1))) (mCons (mVar 1) (mNil)))))))
theorem sc_is_of : FnScope ["shape", "tongue", "sign", "part"] ["shape", "tongue"] (defScope (topS 33)) := ⟨rfl, rfl, rfl, by decide +kernel, rfl, by decide +kernel, by decide +kernel⟩
theorem okf_is_of {P : Program} {w : World} {K : PySem.W.Frag} {mg : Str → Option Value} {base : Heap} {cl : Str → Addr} {k : Nat} {r_is_of : MF} (hk : 0 ≤ k) {f : Addr} {fd : FuncData} (F : Fun K "is_of" "is_of" (topS 33) f fd) (F_is_of : FnG P w K mg base ⟨K, cl⟩ "is_of" k 2 r_is_of) : FnOk P w K mg base (L2.CX P w) (k + 1) f fd ["shape", "tongue"] (FSp ⟨K, cl⟩ 2 (B_is_of r_is_of)) :=
  fnPM F sc_is_of rfl fun cdv A outer s H E hr tk hp => mss_cons (ms_if (mt_cmp (op_eqP hr.units) (dEq_ok rfl) (me_ix rfl (me_var 0) (me_int)) (me_str [111, 110, 101])) (mss_one (ms_ret (me_cmp (op_eqP hr.units) (dEq_ok rfl) (me_fz (me_lc (own := [("sign", 2)]) rfl sc_is_of.nd (mi_seq rfl (me_ix rfl (me_var 0) (me_int))) (blkOk_by (N := ["shape", "tongue", "sign", "part"]) (sc := defScope (topS 33)) (by decide +kernel)) (fun _ _ _ _ _ => mg_name 2 sc_is_of.nd) (fun _ _ _ _ _ => mts_one (mt_cmp (op_notInA hr.units) (dIn_ok rfl true) (me_var 2) (me_var 1))) (fun _ _ _ _ _ => me_var 2))) (me_fz (me_lst (ma_nil)))))) (mss_nil))
    (mss_cons (ms_if (mt_cmp (op_inA hr.units) (dIn_ok rfl false) (me_ix rfl (me_var 0) (me_int)) (me_tup (ma_cons (me_str [114, 111, 119]) (ma_cons (me_str [101, 105, 116, 104, 101, 114]) (ma_nil))))) (mss_one (ms_ret (me_cmp (op_eqP hr.units) (dEq_ok rfl) (me_fz (me_lc (own := [("part", 3)]) rfl sc_is_of.nd (mi_seq rfl (me_ix rfl (me_var 0) (me_int))) (blkOk_by (N := ["shape", "tongue", "sign", "part"]) (sc := defScope (topS 33)) (by decide +kernel)) (fun _ _ _ _ _ => mg_name 3 sc_is_of.nd) (fun _ _ _ _ _ => mts_one (mt_not (mt_val rfl (me_callG F_is_of hr (Nat.le_refl _) takes0 (ma_cons (me_var 3) (ma_cons (me_var 1) (ma_nil))))))) (fun _ _ _ _ _ => me_var 3))) (me_fz (me_lst (ma_nil)))))) (mss_nil))
    (mss_one (ms_ret (me_callG F_is_of hr (Nat.le_refl _) tk (ma_cons (me_ix rfl (me_var 0) (me_int)) (ma_cons (me_var 1) (ma_nil)))))))
noncomputable def scc_is_of : Nat → MF
  | 0 => (mNo)
  | n + 1 => (B_is_of (scc_is_of n))
noncomputable def m_is_of (n : Nat) : MF := (scc_is_of n)
theorem m_is_of_succ (n : Nat) : m_is_of (n + 1) = B_is_of (m_is_of n) := rfl
theorem ok_scc_is_of {P : Program} {w : World} {K : PySem.W.Frag} {mg : Str → Option Value} {base : Heap} {cl : Str → Addr} (d_is_of : DefAt K mg "is_of" (topS 33) ["shape", "tongue"]) (n : Nat) : FnG P w K mg base ⟨K, cl⟩ "is_of" (0 + n) 2 (m_is_of n) := by
  induction n with
  | zero => exact fnG_no d_is_of rfl
  | succ n ih => exact d_is_of.fn fun f fd F => okf_is_of (Nat.le_add_right _ _) F ih
/-! _law_alike -/
noncomputable def e__law_alike_1 (r__law_alike : MF) : ME := mCall 2 (r__law_alike) (mCons (mVar 2) (mCons (mVar 3) (mNil)))
noncomputable def B__law_alike (r__law_alike : MF) : MF := fnM 4 (msCons (msIf (mAnd (mTr (mIs "tuple" (mVar 0))) (mTr (mIs "tuple" (mVar 1)))) (msRet (mAndV (mOp (dEq false) (mB bLen (mCons (mVar 0) (mNil))) (mB bLen (mCons (mVar 1) (mNil)))) (mB bAll (mCons (mFz (mLc (iZip (mCons (mVar 0) (mCons (mVar 1) (mNil)))) (gSets [2, 3]) mYes (e__law_alike_1 r__law_alike) [2, 3])) (mNil))))) (msNil))
    (msCons (msIf (mAnd (mTr (mIs "str" (mVar 0))) (mTr (mIs "str" (mVar 1)))) (msRet (mOp (dEq false) (mVar 0) (mVar 1))) (msNil))
    (msCons (msIf (mOr (mTr (mIs "bool" (mVar 0))) (mTr (mIs "bool" (mVar 1)))) (msRet (mC (.bl false))) (msNil))
    (msRet (mAndV (mIs "int" (mVar 0)) (mAndV (mIs "int" (mVar 1)) (mOp (dEq false) (mVar 0) (mVar 1))))))))
theorem sc__law_alike : FnScope ["_law_one_here", "_law_other", "_law_a", "_law_b"] ["_law_one_here", "_law_other"] (defScope (topS 72)) := ⟨rfl, rfl, rfl, by decide +kernel, rfl, by decide +kernel, by decide +kernel⟩
theorem okf__law_alike {P : Program} {w : World} {K : PySem.W.Frag} {mg : Str → Option Value} {base : Heap} {cl : Str → Addr} {k : Nat} {r__law_alike : MF} (hk : 0 ≤ k) {f : Addr} {fd : FuncData} (F : Fun K "_law_alike" "_law_alike" (topS 72) f fd) (z_isinstance : mg "isinstance" = none) (z_tuple : mg "tuple" = none) (z_len : mg "len" = none) (z_zip : mg "zip" = none) (z_all : mg "all" = none) (z_str : mg "str" = none) (z_bool : mg "bool" = none) (z_int : mg "int" = none) (F__law_alike : FnG P w K mg base ⟨K, cl⟩ "_law_alike" k 2 r__law_alike) : FnOk P w K mg base (L2.CX P w) (k + 1) f fd ["_law_one_here", "_law_other"] (FSp ⟨K, cl⟩ 2 (B__law_alike r__law_alike)) :=
  fnPM F sc__law_alike rfl fun cdv A outer s H E hr tk hp => mss_cons (ms_if (mt_w (mw_and (mt_val rfl (me_is rfl (me_var 0) z_isinstance z_tuple)) (mw_and1 (mt_val rfl (me_is rfl (me_var 1) z_isinstance z_tuple))))) (mss_one (ms_ret (me_and (me_cmp (op_eqP hr.units) (dEq_ok rfl) (me_callB call_lenA bLen_ok z_len (by decide +kernel) (ma_cons (me_var 0) (ma_nil))) (me_callB call_lenA bLen_ok z_len (by decide +kernel) (ma_cons (me_var 1) (ma_nil)))) (me_one (me_callB (cr_all rfl) bAll_ok z_all (by decide +kernel) (ma_cons (me_fz (me_lc (own := [("_law_a", 2), ("_law_b", 3)]) rfl sc__law_alike.nd (mi_zip rfl (ma_cons (me_var 0) (ma_cons (me_var 1) (ma_nil))) z_zip) (blkOk_by (N := ["_law_one_here", "_law_other", "_law_a", "_law_b"]) (sc := defScope (topS 72)) (by decide +kernel)) (fun _ _ _ _ _ => mg_tup rfl rfl (.cons (pg_name (i := 2) sc__law_alike.nd rfl (by first | exact Or.inl rfl | exact Or.inr rfl)) (.cons (pg_name (i := 3) sc__law_alike.nd rfl (by first | exact Or.inl rfl | exact Or.inr rfl)) (.nil) rfl) rfl)) (fun _ _ _ _ _ => mts_nil) (fun _ _ _ _ _ => me_callG F__law_alike hr (Nat.le_refl _) takes0 (ma_cons (me_var 2) (ma_cons (me_var 3) (ma_nil)))))) (ma_nil))))))) (mss_nil))
    (mss_cons (ms_if (mt_w (mw_and (mt_val rfl (me_is rfl (me_var 0) z_isinstance z_str)) (mw_and1 (mt_val rfl (me_is rfl (me_var 1) z_isinstance z_str))))) (mss_one (ms_ret (me_cmp (op_eqP hr.units) (dEq_ok rfl) (me_var 0) (me_var 1)))) (mss_nil))
    (mss_cons (ms_if (mt_w (mw_or (mt_val rfl (me_is rfl (me_var 0) z_isinstance z_bool)) (mw_or1 (mt_val rfl (me_is rfl (me_var 1) z_isinstance z_bool))))) (mss_one (ms_ret (me_bl))) (mss_nil))
    (mss_one (ms_ret (me_and (me_is rfl (me_var 0) z_isinstance z_int) (me_and (me_is rfl (me_var 1) z_isinstance z_int) (me_one (me_cmp (op_eqP hr.units) (dEq_ok rfl) (me_var 0) (me_var 1)))))))))
noncomputable def scc__law_alike : Nat → MF
  | 0 => (mNo)
  | n + 1 => (B__law_alike (scc__law_alike n))
noncomputable def m__law_alike (n : Nat) : MF := (scc__law_alike n)
theorem m__law_alike_succ (n : Nat) : m__law_alike (n + 1) = B__law_alike (m__law_alike n) := rfl
theorem ok_scc__law_alike {P : Program} {w : World} {K : PySem.W.Frag} {mg : Str → Option Value} {base : Heap} {cl : Str → Addr} (d__law_alike : DefAt K mg "_law_alike" (topS 72) ["_law_one_here", "_law_other"]) (z_isinstance : mg "isinstance" = none) (z_tuple : mg "tuple" = none) (z_len : mg "len" = none) (z_zip : mg "zip" = none) (z_all : mg "all" = none) (z_str : mg "str" = none) (z_bool : mg "bool" = none) (z_int : mg "int" = none) (n : Nat) : FnG P w K mg base ⟨K, cl⟩ "_law_alike" (0 + n) 2 (m__law_alike n) := by
  induction n with
  | zero => exact fnG_no d__law_alike rfl
  | succ n ih => exact d__law_alike.fn fun f fd F => okf__law_alike (Nat.le_add_right _ _) F z_isinstance z_tuple z_len z_zip z_all z_str z_bool z_int ih
/-! weight -/
noncomputable def e_weight_1 (r_weight : MF) : ME := mCall 1 (r_weight) (mCons (mVar 2) (mNil))
noncomputable def B_weight (r_weight : MF) : MF := fnM 3 (msCons (msIf (mTb (mOp (dEq false) (mOp dIx (mVar 0) (mC (.int 0))) (mC (.str [111, 110, 101])))) (msRet (mC (.int 1))) (msNil))
    (msCons (msSet 1 (mB bSum (mCons (mFz (mLc (iSeq (mCall 1 (m_inner) (mCons (mVar 0) (mNil)))) (gSet 2) mYes (e_weight_1 r_weight) [2])) (mNil))))
    (msCons (msIf (mTb (mOp (dEq false) (mOp dIx (mVar 0) (mC (.int 0))) (mC (.str [116, 105, 109, 101, 115])))) (msRet (mOp dMul (mOp dIx (mVar 0) (mC (.int 3))) (mVar 1))) (msNil))
    (msRet (mVar 1)))))
theorem sc_weight : FnScope ["shape", "found", "part"] ["shape"] (defScope (topS 24)) := ⟨rfl, rfl, rfl, by decide +kernel, rfl, by decide +kernel, by decide +kernel⟩
theorem okf_weight {P : Program} {w : World} {K : PySem.W.Frag} {mg : Str → Option Value} {base : Heap} {cl : Str → Addr} {k : Nat} {r_weight : MF} (hk : 1 ≤ k) {f : Addr} {fd : FuncData} (F : Fun K "weight" "weight" (topS 24) f fd) (z_sum : mg "sum" = none) (F_inner : FnG P w K mg base ⟨K, cl⟩ "inner" 1 1 m_inner) (F_weight : FnG P w K mg base ⟨K, cl⟩ "weight" k 1 r_weight) : FnOk P w K mg base (L2.CX P w) (k + 1) f fd ["shape"] (FSp ⟨K, cl⟩ 1 (B_weight r_weight)) :=
  fnPM F sc_weight rfl fun cdv A outer s H E hr tk hp => mss_cons (ms_if (mt_cmp (op_eqP hr.units) (dEq_ok rfl) (me_ix rfl (me_var 0) (me_int)) (me_str [111, 110, 101])) (mss_one (ms_ret (me_int))) (mss_nil))
    (mss_cons (ms_set 1 sc_weight.nd (me_callB (cr_sum rfl) bSum_ok z_sum (by decide +kernel) (ma_cons (me_fz (me_lc (own := [("part", 2)]) rfl sc_weight.nd (mi_seq rfl (me_callG F_inner hr (Nat.le_trans (by decide) hk) tk (ma_cons (me_var 0) (ma_nil)))) (blkOk_by (N := ["shape", "found", "part"]) (sc := defScope (topS 24)) (by decide +kernel)) (fun _ _ _ _ _ => mg_name 2 sc_weight.nd) (fun _ _ _ _ _ => mts_nil) (fun _ _ _ _ _ => me_callG F_weight hr (Nat.le_refl _) takes0 (ma_cons (me_var 2) (ma_nil))))) (ma_nil))))
    (mss_cons (ms_if (mt_cmp (op_eqP hr.units) (dEq_ok rfl) (me_ix rfl (me_var 0) (me_int)) (me_str [116, 105, 109, 101, 115])) (mss_one (ms_ret (me_mul rfl (me_ix rfl (me_var 0) (me_int)) (me_var 1)))) (mss_nil))
    (mss_one (ms_ret (me_var 1)))))
noncomputable def scc_weight : Nat → MF
  | 0 => (mNo)
  | n + 1 => (B_weight (scc_weight n))
noncomputable def m_weight (n : Nat) : MF := (scc_weight n)
theorem m_weight_succ (n : Nat) : m_weight (n + 1) = B_weight (m_weight n) := rfl
theorem ok_scc_weight {P : Program} {w : World} {K : PySem.W.Frag} {mg : Str → Option Value} {base : Heap} {cl : Str → Addr} (d_weight : DefAt K mg "weight" (topS 24) ["shape"]) (z_sum : mg "sum" = none) (F_inner : FnG P w K mg base ⟨K, cl⟩ "inner" 1 1 m_inner) (n : Nat) : FnG P w K mg base ⟨K, cl⟩ "weight" (1 + n) 1 (m_weight n) := by
  induction n with
  | zero => exact fnG_no d_weight rfl
  | succ n ih => exact d_weight.fn fun f fd F => okf_weight (Nat.le_add_right _ _) F z_sum F_inner ih
/-! parts_of -/
noncomputable def b_parts_of_1 (r_parts_of : MF) : MS := msExpr (mOrE (mMeth "list" fExtend (mVar 1) (mCons (mCall 1 (r_parts_of) (mCons (mVar 2) (mNil))) (mNil))) (mMeth "list" fExtendT (mVar 1) (mCons (mCall 1 (r_parts_of) (mCons (mVar 2) (mNil))) (mNil))))
noncomputable def B_parts_of (r_parts_of : MF) : MF := fnM 3 (msCons (msSet 1 (mLst (mCons (mVar 0) (mNil))))
    (msCons (msFor (iSeq (mCall 1 (m_inner) (mCons (mVar 0) (mNil)))) (gSet 2) (b_parts_of_1 r_parts_of))
    (msRet (mB bTupleX (mCons (mVar 1) (mNil))))))
theorem sc_parts_of : FnScope ["shape", "found", "part"] ["shape"] (defScope (topS 25)) := ⟨rfl, rfl, rfl, by decide +kernel, rfl, by decide +kernel, by decide +kernel⟩
theorem okf_parts_of {P : Program} {w : World} {K : PySem.W.Frag} {mg : Str → Option Value} {base : Heap} {cl : Str → Addr} {k : Nat} {r_parts_of : MF} (hk : 1 ≤ k) {f : Addr} {fd : FuncData} (F : Fun K "parts_of" "parts_of" (topS 25) f fd) (z_tuple : mg "tuple" = none) (F_inner : FnG P w K mg base ⟨K, cl⟩ "inner" 1 1 m_inner) (F_parts_of : FnG P w K mg base ⟨K, cl⟩ "parts_of" k 1 r_parts_of) : FnOk P w K mg base (L2.CX P w) (k + 1) f fd ["shape"] (FSp ⟨K, cl⟩ 1 (B_parts_of r_parts_of)) :=
  fnPM F sc_parts_of rfl fun cdv A outer s H E hr tk hp => mss_cons (ms_set 1 sc_parts_of.nd (me_lst (ma_cons (me_var 0) (ma_nil))))
    (mss_cons (ms_for rfl hp (mi_seq rfl (me_callG F_inner hr (Nat.le_trans (by decide) hk) tk (ma_cons (me_var 0) (ma_nil)))) (mg_name 2 sc_parts_of.nd) (mss_one (ms_expr (me_orE (me_meth rfl PySem.F.plainAttrs_list PySem.F.slot_list_extend PySem.F.type_list_extend mt_extendR fExtend_ok (me_var 1) (ma_cons (me_callG F_parts_of hr (Nat.le_refl _) tk (ma_cons (me_var 2) (ma_nil))) (ma_nil))) (me_meth rfl PySem.F.plainAttrs_list PySem.F.slot_list_extend PySem.F.type_list_extend mt_extendT fExtendT_ok (me_var 1) (ma_cons (me_callG F_parts_of hr (Nat.le_refl _) tk (ma_cons (me_var 2) (ma_nil))) (ma_nil)))))))
    (mss_one (ms_ret (me_callT (call_tupleX rfl) bTupleX_ok z_tuple (by decide +kernel) (ma_cons (me_var 1) (ma_nil))))))
noncomputable def scc_parts_of : Nat → MF
  | 0 => (mNo)
  | n + 1 => (B_parts_of (scc_parts_of n))
noncomputable def m_parts_of (n : Nat) : MF := (scc_parts_of n)
theorem m_parts_of_succ (n : Nat) : m_parts_of (n + 1) = B_parts_of (m_parts_of n) := rfl
theorem ok_scc_parts_of {P : Program} {w : World} {K : PySem.W.Frag} {mg : Str → Option Value} {base : Heap} {cl : Str → Addr} (d_parts_of : DefAt K mg "parts_of" (topS 25) ["shape"]) (z_tuple : mg "tuple" = none) (F_inner : FnG P w K mg base ⟨K, cl⟩ "inner" 1 1 m_inner) (n : Nat) : FnG P w K mg base ⟨K, cl⟩ "parts_of" (1 + n) 1 (m_parts_of n) := by
  induction n with
  | zero => exact fnG_no d_parts_of rfl
  | succ n ih => exact d_parts_of.fn fun f fd F => okf_parts_of (Nat.le_add_right _ _) F z_tuple F_inner ih
/-! _law_written -/
noncomputable def e__law_written_1 (r__law_written : MF) : ME := mCall 1 (r__law_written) (mCons (mVar 1) (mNil))
noncomputable def e__law_written_2 (r__law_written : MF) : ME := mCall 1 (r__law_written) (mCons (mVar 1) (mNil))
noncomputable def B__law_written (r__law_written : MF) : MF := fnM 2 (msCons (msIf (mTb (mOp (dEq false) (mOp dIx (mVar 0) (mC (.int 0))) (mC (.str [111, 110, 101])))) (msRet (mCall 1 (m__law_quote) (mCons (mOp dIx (mVar 0) (mC (.int 1))) (mNil)))) (msNil))
    (msCons (msIf (mTb (mOp (dEq false) (mOp dIx (mVar 0) (mC (.int 0))) (mC (.str [114, 111, 119])))) (msRet (mOp dAdd (mOp dAdd (mC (.str [40])) (mMeth "str" fJoin (mC (.str [32])) (mCons (mFz (mLc (iSeq (mOp dIx (mVar 0) (mC (.int 1)))) (gSet 1) mYes (e__law_written_1 r__law_written) [1])) (mNil)))) (mC (.str [41])))) (msNil))
    (msCons (msIf (mTb (mOp (dEq false) (mOp dIx (mVar 0) (mC (.int 0))) (mC (.str [101, 105, 116, 104, 101, 114])))) (msRet (mOp dAdd (mOp dAdd (mC (.str [123])) (mMeth "str" fJoin (mC (.str [32])) (mCons (mFz (mLc (iSeq (mOp dIx (mVar 0) (mC (.int 1)))) (gSet 1) mYes (e__law_written_2 r__law_written) [1])) (mNil)))) (mC (.str [125])))) (msNil))
    (msCons (msIf (mTb (mOp (dEq false) (mOp dIx (mVar 0) (mC (.int 0))) (mC (.str [109, 97, 110, 121])))) (msRet (mOp dAdd (mC (.str [42])) (mCall 1 (r__law_written) (mCons (mOp dIx (mVar 0) (mC (.int 1))) (mNil))))) (msNil))
    (msRet (mOp dAdd (mOp dAdd (mOp dAdd (mOp dAdd (mOp dIx (mC (.str [48, 49, 50, 51, 52, 53])) (mOp dIx (mVar 0) (mC (.int 2)))) (mC (.str [45]))) (mOp dIx (mC (.str [48, 49, 50, 51, 52, 53])) (mOp dIx (mVar 0) (mC (.int 3))))) (mC (.str [58]))) (mCall 1 (r__law_written) (mCons (mOp dIx (mVar 0) (mC (.int 1))) (mNil)))))))))
theorem sc__law_written : FnScope ["_law_shape_here", "_law_part"] ["_law_shape_here"] (defScope (topS 71)) := ⟨rfl, rfl, rfl, by decide +kernel, rfl, by decide +kernel, by decide +kernel⟩
theorem okf__law_written {P : Program} {w : World} {K : PySem.W.Frag} {mg : Str → Option Value} {base : Heap} {cl : Str → Addr} {k : Nat} {r__law_written : MF} (hk : 1 ≤ k) {f : Addr} {fd : FuncData} (F : Fun K "_law_written" "_law_written" (topS 71) f fd) (F__law_quote : FnG P w K mg base ⟨K, cl⟩ "_law_quote" 1 1 m__law_quote) (F__law_written : FnG P w K mg base ⟨K, cl⟩ "_law_written" k 1 r__law_written) : FnOk P w K mg base (L2.CX P w) (k + 1) f fd ["_law_shape_here"] (FSp ⟨K, cl⟩ 1 (B__law_written r__law_written)) :=
  fnPM F sc__law_written rfl fun cdv A outer s H E hr tk hp => mss_cons (ms_if (mt_cmp (op_eqP hr.units) (dEq_ok rfl) (me_ix rfl (me_var 0) (me_int)) (me_str [111, 110, 101])) (mss_one (ms_ret (me_callG F__law_quote hr (Nat.le_trans (by decide) hk) tk (ma_cons (me_ix rfl (me_var 0) (me_int)) (ma_nil))))) (mss_nil))
    (mss_cons (ms_if (mt_cmp (op_eqP hr.units) (dEq_ok rfl) (me_ix rfl (me_var 0) (me_int)) (me_str [114, 111, 119])) (mss_one (ms_ret (me_add rfl (me_add rfl (me_str [40]) (me_meth rfl PySem.F.plainAttrs_str PySem.F.slot_str_join PySem.F.type_str_join mt_join fJoin_ok (me_str [32]) (ma_cons (me_fz (me_lc (own := [("_law_part", 1)]) rfl sc__law_written.nd (mi_seq rfl (me_ix rfl (me_var 0) (me_int))) (blkOk_by (N := ["_law_shape_here", "_law_part"]) (sc := defScope (topS 71)) (by decide +kernel)) (fun _ _ _ _ _ => mg_name 1 sc__law_written.nd) (fun _ _ _ _ _ => mts_nil) (fun _ _ _ _ _ => me_callG F__law_written hr (Nat.le_refl _) takes0 (ma_cons (me_var 1) (ma_nil))))) (ma_nil)))) (me_str [41])))) (mss_nil))
    (mss_cons (ms_if (mt_cmp (op_eqP hr.units) (dEq_ok rfl) (me_ix rfl (me_var 0) (me_int)) (me_str [101, 105, 116, 104, 101, 114])) (mss_one (ms_ret (me_add rfl (me_add rfl (me_str [123]) (me_meth rfl PySem.F.plainAttrs_str PySem.F.slot_str_join PySem.F.type_str_join mt_join fJoin_ok (me_str [32]) (ma_cons (me_fz (me_lc (own := [("_law_part", 1)]) rfl sc__law_written.nd (mi_seq rfl (me_ix rfl (me_var 0) (me_int))) (blkOk_by (N := ["_law_shape_here", "_law_part"]) (sc := defScope (topS 71)) (by decide +kernel)) (fun _ _ _ _ _ => mg_name 1 sc__law_written.nd) (fun _ _ _ _ _ => mts_nil) (fun _ _ _ _ _ => me_callG F__law_written hr (Nat.le_refl _) takes0 (ma_cons (me_var 1) (ma_nil))))) (ma_nil)))) (me_str [125])))) (mss_nil))
    (mss_cons (ms_if (mt_cmp (op_eqP hr.units) (dEq_ok rfl) (me_ix rfl (me_var 0) (me_int)) (me_str [109, 97, 110, 121])) (mss_one (ms_ret (me_add rfl (me_str [42]) (me_callG F__law_written hr (Nat.le_refl _) tk (ma_cons (me_ix rfl (me_var 0) (me_int)) (ma_nil)))))) (mss_nil))
    (mss_one (ms_ret (me_add rfl (me_add rfl (me_add rfl (me_add rfl (me_ix rfl (me_str [48, 49, 50, 51, 52, 53]) (me_ix rfl (me_var 0) (me_int))) (me_str [45])) (me_ix rfl (me_str [48, 49, 50, 51, 52, 53]) (me_ix rfl (me_var 0) (me_int)))) (me_str [58])) (me_callG F__law_written hr (Nat.le_refl _) tk (ma_cons (me_ix rfl (me_var 0) (me_int)) (ma_nil)))))))))
noncomputable def scc__law_written : Nat → MF
  | 0 => (mNo)
  | n + 1 => (B__law_written (scc__law_written n))
noncomputable def m__law_written (n : Nat) : MF := (scc__law_written n)
theorem m__law_written_succ (n : Nat) : m__law_written (n + 1) = B__law_written (m__law_written n) := rfl
theorem ok_scc__law_written {P : Program} {w : World} {K : PySem.W.Frag} {mg : Str → Option Value} {base : Heap} {cl : Str → Addr} (d__law_written : DefAt K mg "_law_written" (topS 71) ["_law_shape_here"]) (F__law_quote : FnG P w K mg base ⟨K, cl⟩ "_law_quote" 1 1 m__law_quote) (n : Nat) : FnG P w K mg base ⟨K, cl⟩ "_law_written" (1 + n) 1 (m__law_written n) := by
  induction n with
  | zero => exact fnG_no d__law_written rfl
  | succ n ih => exact d__law_written.fn fun f fd F => okf__law_written (Nat.le_add_right _ _) F F__law_quote ih
/-! shape_text -/
noncomputable def e_shape_text_1 (r_shape_text : MF) : ME := mCall 1 (r_shape_text) (mCons (mVar 1) (mNil))
noncomputable def e_shape_text_2 (r_shape_text : MF) : ME := mCall 1 (r_shape_text) (mCons (mVar 1) (mNil))
noncomputable def B_shape_text (r_shape_text : MF) : MF := fnM 2 (msCons (msIf (mTb (mOp (dEq false) (mOp dIx (mVar 0) (mC (.int 0))) (mC (.str [111, 110, 101])))) (msRet (mCall 1 (m_quoted) (mCons (mOp dIx (mVar 0) (mC (.int 1))) (mNil)))) (msNil))
    (msCons (msIf (mTb (mOp (dEq false) (mOp dIx (mVar 0) (mC (.int 0))) (mC (.str [114, 111, 119])))) (msRet (mOp dAdd (mOp dAdd (mC (.str [40])) (mMeth "str" fJoin (mC (.str [32])) (mCons (mFz (mLc (iSeq (mOp dIx (mVar 0) (mC (.int 1)))) (gSet 1) mYes (e_shape_text_1 r_shape_text) [1])) (mNil)))) (mC (.str [41])))) (msNil))
    (msCons (msIf (mTb (mOp (dEq false) (mOp dIx (mVar 0) (mC (.int 0))) (mC (.str [101, 105, 116, 104, 101, 114])))) (msRet (mOp dAdd (mOp dAdd (mC (.str [123])) (mMeth "str" fJoin (mC (.str [32])) (mCons (mFz (mLc (iSeq (mOp dIx (mVar 0) (mC (.int 1)))) (gSet 1) mYes (e_shape_text_2 r_shape_text) [1])) (mNil)))) (mC (.str [125])))) (msNil))
    (msCons (msIf (mTb (mOp (dEq false) (mOp dIx (mVar 0) (mC (.int 0))) (mC (.str [109, 97, 110, 121])))) (msRet (mOp dAdd (mC (.str [42])) (mCall 1 (r_shape_text) (mCons (mOp dIx (mVar 0) (mC (.int 1))) (mNil))))) (msNil))
    (msRet (mOp dAdd (mOp dAdd (mOp dAdd (mOp dAdd (mB bStr1 (mCons (mOp dIx (mVar 0) (mC (.int 2))) (mNil))) (mC (.str [45]))) (mB bStr1 (mCons (mOp dIx (mVar 0) (mC (.int 3))) (mNil)))) (mC (.str [58]))) (mCall 1 (r_shape_text) (mCons (mOp dIx (mVar 0) (mC (.int 1))) (mNil)))))))))
theorem sc_shape_text : FnScope ["shape", "part"] ["shape"] (defScope (topS 45)) := ⟨rfl, rfl, rfl, by decide +kernel, rfl, by decide +kernel, by decide +kernel⟩
theorem okf_shape_text {P : Program} {w : World} {K : PySem.W.Frag} {mg : Str → Option Value} {base : Heap} {cl : Str → Addr} {k : Nat} {r_shape_text : MF} (hk : 2 ≤ k) {f : Addr} {fd : FuncData} (F : Fun K "shape_text" "shape_text" (topS 45) f fd) (z_str : mg "str" = none) (F_quoted : FnG P w K mg base ⟨K, cl⟩ "quoted" 2 1 m_quoted) (F_shape_text : FnG P w K mg base ⟨K, cl⟩ "shape_text" k 1 r_shape_text) : FnOk P w K mg base (L2.CX P w) (k + 1) f fd ["shape"] (FSp ⟨K, cl⟩ 1 (B_shape_text r_shape_text)) :=
  fnPM F sc_shape_text rfl fun cdv A outer s H E hr tk hp => mss_cons (ms_if (mt_cmp (op_eqP hr.units) (dEq_ok rfl) (me_ix rfl (me_var 0) (me_int)) (me_str [111, 110, 101])) (mss_one (ms_ret (me_callG F_quoted hr (Nat.le_trans (by decide) hk) tk (ma_cons (me_ix rfl (me_var 0) (me_int)) (ma_nil))))) (mss_nil))
    (mss_cons (ms_if (mt_cmp (op_eqP hr.units) (dEq_ok rfl) (me_ix rfl (me_var 0) (me_int)) (me_str [114, 111, 119])) (mss_one (ms_ret (me_add rfl (me_add rfl (me_str [40]) (me_meth rfl PySem.F.plainAttrs_str PySem.F.slot_str_join PySem.F.type_str_join mt_join fJoin_ok (me_str [32]) (ma_cons (me_fz (me_lc (own := [("part", 1)]) rfl sc_shape_text.nd (mi_seq rfl (me_ix rfl (me_var 0) (me_int))) (blkOk_by (N := ["shape", "part"]) (sc := defScope (topS 45)) (by decide +kernel)) (fun _ _ _ _ _ => mg_name 1 sc_shape_text.nd) (fun _ _ _ _ _ => mts_nil) (fun _ _ _ _ _ => me_callG F_shape_text hr (Nat.le_refl _) takes0 (ma_cons (me_var 1) (ma_nil))))) (ma_nil)))) (me_str [41])))) (mss_nil))
    (mss_cons (ms_if (mt_cmp (op_eqP hr.units) (dEq_ok rfl) (me_ix rfl (me_var 0) (me_int)) (me_str [101, 105, 116, 104, 101, 114])) (mss_one (ms_ret (me_add rfl (me_add rfl (me_str [123]) (me_meth rfl PySem.F.plainAttrs_str PySem.F.slot_str_join PySem.F.type_str_join mt_join fJoin_ok (me_str [32]) (ma_cons (me_fz (me_lc (own := [("part", 1)]) rfl sc_shape_text.nd (mi_seq rfl (me_ix rfl (me_var 0) (me_int))) (blkOk_by (N := ["shape", "part"]) (sc := defScope (topS 45)) (by decide +kernel)) (fun _ _ _ _ _ => mg_name 1 sc_shape_text.nd) (fun _ _ _ _ _ => mts_nil) (fun _ _ _ _ _ => me_callG F_shape_text hr (Nat.le_refl _) takes0 (ma_cons (me_var 1) (ma_nil))))) (ma_nil)))) (me_str [125])))) (mss_nil))
    (mss_cons (ms_if (mt_cmp (op_eqP hr.units) (dEq_ok rfl) (me_ix rfl (me_var 0) (me_int)) (me_str [109, 97, 110, 121])) (mss_one (ms_ret (me_add rfl (me_str [42]) (me_callG F_shape_text hr (Nat.le_refl _) tk (ma_cons (me_ix rfl (me_var 0) (me_int)) (ma_nil)))))) (mss_nil))
    (mss_one (ms_ret (me_add rfl (me_add rfl (me_add rfl (me_add rfl (me_callT call_str_int bStr1_ok z_str (by decide +kernel) (ma_cons (me_ix rfl (me_var 0) (me_int)) (ma_nil))) (me_str [45])) (me_callT call_str_int bStr1_ok z_str (by decide +kernel) (ma_cons (me_ix rfl (me_var 0) (me_int)) (ma_nil)))) (me_str [58])) (me_callG F_shape_text hr (Nat.le_refl _) tk (ma_cons (me_ix rfl (me_var 0) (me_int)) (ma_nil)))))))))
noncomputable def scc_shape_text : Nat → MF
  | 0 => (mNo)
  | n + 1 => (B_shape_text (scc_shape_text n))
noncomputable def m_shape_text (n : Nat) : MF := (scc_shape_text n)
theorem m_shape_text_succ (n : Nat) : m_shape_text (n + 1) = B_shape_text (m_shape_text n) := rfl
theorem ok_scc_shape_text {P : Program} {w : World} {K : PySem.W.Frag} {mg : Str → Option Value} {base : Heap} {cl : Str → Addr} (d_shape_text : DefAt K mg "shape_text" (topS 45) ["shape"]) (z_str : mg "str" = none) (F_quoted : FnG P w K mg base ⟨K, cl⟩ "quoted" 2 1 m_quoted) (n : Nat) : FnG P w K mg base ⟨K, cl⟩ "shape_text" (2 + n) 1 (m_shape_text n) := by
  induction n with
  | zero => exact fnG_no d_shape_text rfl
  | succ n ih => exact d_shape_text.fn fun f fd F => okf_shape_text (Nat.le_add_right _ _) F z_str F_quoted ih
/-! signs_in -/
noncomputable def t_signs_in_1 : MT := mTb (mOp (dEq false) (mOp dIx (mVar 1) (mC (.int 0))) (mC (.str [111, 110, 101])))
noncomputable def e_signs_in_2 : ME := mOp dIx (mVar 1) (mC (.int 1))
noncomputable def m_signs_in : MF := fnM 2 (msRet (mMeth "str" fJoin (mC (.str [])) (mCons (mFz (mLc (iSeq (mCall 1 ((m_parts_of 24)) (mCons (mVar 0) (mNil)))) (gSet 1) t_signs_in_1 e_signs_in_2 [1])) (mNil))))
theorem sc_signs_in : FnScope ["shape", "part"] ["shape"] (defScope (topS 58)) := ⟨rfl, rfl, rfl, by decide +kernel, rfl, by decide +kernel, by decide +kernel⟩
theorem okf_signs_in {P : Program} {w : World} {K : PySem.W.Frag} {mg : Str → Option Value} {base : Heap} {cl : Str → Addr} {f : Addr} {fd : FuncData} (F : Fun K "signs_in" "signs_in" (topS 58) f fd) (F_parts_of : FnG P w K mg base ⟨K, cl⟩ "parts_of" 25 1 (m_parts_of 24)) : FnOk P w K mg base (L2.CX P w) 26 f fd ["shape"] (FSp ⟨K, cl⟩ 1 m_signs_in) :=
  fnPM F sc_signs_in rfl fun cdv A outer s H E hr tk hp => mss_one (ms_ret (me_meth rfl PySem.F.plainAttrs_str PySem.F.slot_str_join PySem.F.type_str_join mt_join fJoin_ok (me_str []) (ma_cons (me_fz (me_lc (own := [("part", 1)]) rfl sc_signs_in.nd (mi_seq rfl (me_callG F_parts_of hr (by decide) tk (ma_cons (me_var 0) (ma_nil)))) (blkOk_by (N := ["shape", "part"]) (sc := defScope (topS 58)) (by decide +kernel)) (fun _ _ _ _ _ => mg_name 1 sc_signs_in.nd) (fun _ _ _ _ _ => mts_one (mt_cmp (op_eqP hr.units) (dEq_ok rfl) (me_ix rfl (me_var 1) (me_int)) (me_str [111, 110, 101]))) (fun _ _ _ _ _ => me_ix rfl (me_var 1) (me_int)))) (ma_nil))))
theorem ok_signs_in {P : Program} {w : World} {K : PySem.W.Frag} {mg : Str → Option Value} {base : Heap} {cl : Str → Addr} (d : DefAt K mg "signs_in" (topS 58) ["shape"]) (F_parts_of : FnG P w K mg base ⟨K, cl⟩ "parts_of" 25 1 (m_parts_of 24)) : FnG P w K mg base ⟨K, cl⟩ "signs_in" 26 1 m_signs_in := d.fn fun f fd F => okf_signs_in F F_parts_of
/-! _law_shape -/
noncomputable def e__law_shape_1 (r__law_shape : MF) : ME := mCall 5 (r__law_shape) (mCons (mVar 0) (mCons (mVar 1) (mCons (mVar 2) (mCons (mVar 3) (mCons (mOp dSub (mVar 4) (mC (.int 1))) (mNil))))))
noncomputable def B__law_shape (r__law_shape : MF) : MF := fnM 11 (msCons (msSet 5 (mCall 2 (m__law_take) (mCons (mVar 0) (mCons (mC (.int 10)) (mNil)))))
    (msCons (msAugI dISub (mVar 2) (mC (.int 1)) (mC (.int 1)))
    (msCons (msIf (mOr (mTb (mOp (dEq false) (mVar 4) (mC (.int 1)))) (mOr (mTb (mOp dLt (mVar 5) (mC (.int 4)))) (mTb (mOp dLt (mOp dIx (mVar 2) (mC (.int 1))) (mC (.int 9)))))) (msCons (msIf (mTb (mOp dLt (mOp dIx (mVar 2) (mC (.int 0))) (mVar 3))) (msRet (mTup (mCons (mC (.str [114, 111, 119])) (mCons (mTup (mNil)) (mNil))))) (msNil))
    (msCons (msAugI dISub (mVar 2) (mC (.int 0)) (mVar 3))
    (msRet (mCall 2 (m__law_one) (mCons (mVar 0) (mCons (mVar 1) (mNil))))))) (msNil))
    (msCons (msIf (mTb (mOp (dEq false) (mVar 5) (mC (.int 4)))) (msRet (mTup (mCons (mC (.str [109, 97, 110, 121])) (mCons (mCall 5 (r__law_shape) (mCons (mVar 0) (mCons (mVar 1) (mCons (mVar 2) (mCons (mVar 3) (mCons (mOp dSub (mVar 4) (mC (.int 1))) (mNil))))))) (mNil))))) (msNil))
    (msCons (msIf (mTb (mOp (dEq false) (mVar 5) (mC (.int 5)))) (msCons (msSet 6 (mCall 2 (m__law_take) (mCons (mVar 0) (mCons (mC (.int 5)) (mNil)))))
    (msCons (msSet 7 (mCall 2 (m__law_take) (mCons (mVar 0) (mCons (mOp dAdd (mVar 6) (mC (.int 1))) (mNil)))))
    (msRet (mTup (mCons (mC (.str [116, 105, 109, 101, 115])) (mCons (mCall 5 (r__law_shape) (mCons (mVar 0) (mCons (mVar 1) (mCons (mVar 2) (mCons (mOp dMul (mVar 3) (mVar 6)) (mCons (mOp dSub (mVar 4) (mC (.int 1))) (mNil))))))) (mCons (mVar 7) (mCons (mVar 6) (mNil))))))))) (msNil))
    (msCons (msSet 8 (mOp dAdd (mC (.int 1)) (mCall 2 (m__law_take) (mCons (mVar 0) (mCons (mC (.int 3)) (mNil))))))
    (msCons (msSet 9 (mB bTupleX (mCons (mFz (mLc (iRange1 (mCons (mVar 8) (mNil))) (gSet 10) mYes (e__law_shape_1 r__law_shape) [10])) (mNil))))
    (msCons (msIf (mTb (mOp dLt (mVar 5) (mC (.int 8)))) (msRet (mTup (mCons (mC (.str [114, 111, 119])) (mCons (mVar 9) (mNil))))) (msNil))
    (msRet (mTup (mCons (mC (.str [101, 105, 116, 104, 101, 114])) (mCons (mVar 9) (mNil)))))))))))))
theorem sc__law_shape : FnScope ["_law_hand_here", "_law_tongue_here", "_law_purse", "_law_factor", "_law_deep", "_law_which", "_law_high", "_law_low", "_law_many", "_law_parts", "_law_turn"] ["_law_hand_here", "_law_tongue_here", "_law_purse", "_law_factor", "_law_deep"] (defScope (topS 67)) := ⟨rfl, rfl, rfl, by decide +kernel, rfl, by decide +kernel, by decide +kernel⟩
theorem okf__law_shape {P : Program} {w : World} {K : PySem.W.Frag} {mg : Str → Option Value} {base : Heap} {cl : Str → Addr} {k : Nat} {r__law_shape : MF} (hk : 2 ≤ k) {f : Addr} {fd : FuncData} (F : Fun K "_law_shape" "_law_shape" (topS 67) f fd) (z_range : mg "range" = none) (z_tuple : mg "tuple" = none) (F__law_take : FnG P w K mg base ⟨K, cl⟩ "_law_take" 1 2 m__law_take) (F__law_one : FnG P w K mg base ⟨K, cl⟩ "_law_one" 2 2 m__law_one) (F__law_shape : FnG P w K mg base ⟨K, cl⟩ "_law_shape" k 5 r__law_shape) : FnOk P w K mg base (L2.CX P w) (k + 1) f fd ["_law_hand_here", "_law_tongue_here", "_law_purse", "_law_factor", "_law_deep"] (FSp ⟨K, cl⟩ 5 (B__law_shape r__law_shape)) :=
  fnPM F sc__law_shape rfl fun cdv A outer s H E hr tk hp => mss_cons (ms_set 5 sc__law_shape.nd (me_callG F__law_take hr (Nat.le_trans (by decide) hk) tk (ma_cons (me_var 0) (ma_cons (me_int) (ma_nil)))))
    (mss_cons (ms_augI rfl iop_sub isub_ok (me_var 2) (me_int) (me_int))
    (mss_cons (ms_if (mt_w (mw_or (mt_cmp (op_eqP hr.units) (dEq_ok rfl) (me_var 4) (me_int)) (mw_or (mt_cmp op_lt opS_C (me_var 5) (me_int)) (mw_or1 (mt_cmp op_lt opS_C (me_ix rfl (me_var 2) (me_int)) (me_int)))))) (mss_cons (ms_if (mt_cmp op_lt opS_C (me_ix rfl (me_var 2) (me_int)) (me_var 3)) (mss_one (ms_ret (me_tup (ma_cons (me_str [114, 111, 119]) (ma_cons (me_tup (ma_nil)) (ma_nil)))))) (mss_nil))
    (mss_cons (ms_augI rfl iop_sub isub_ok (me_var 2) (me_int) (me_var 3))
    (mss_one (ms_ret (me_callG F__law_one hr (Nat.le_trans (by decide) hk) tk (ma_cons (me_var 0) (ma_cons (me_var 1) (ma_nil)))))))) (mss_nil))
    (mss_cons (ms_if (mt_cmp (op_eqP hr.units) (dEq_ok rfl) (me_var 5) (me_int)) (mss_one (ms_ret (me_tup (ma_cons (me_str [109, 97, 110, 121]) (ma_cons (me_callG F__law_shape hr (Nat.le_refl _) tk (ma_cons (me_var 0) (ma_cons (me_var 1) (ma_cons (me_var 2) (ma_cons (me_var 3) (ma_cons (me_sub (me_var 4) (me_int)) (ma_nil))))))) (ma_nil)))))) (mss_nil))
    (mss_cons (ms_if (mt_cmp (op_eqP hr.units) (dEq_ok rfl) (me_var 5) (me_int)) (mss_cons (ms_set 6 sc__law_shape.nd (me_callG F__law_take hr (Nat.le_trans (by decide) hk) tk (ma_cons (me_var 0) (ma_cons (me_int) (ma_nil)))))
    (mss_cons (ms_set 7 sc__law_shape.nd (me_callG F__law_take hr (Nat.le_trans (by decide) hk) tk (ma_cons (me_var 0) (ma_cons (me_add rfl (me_var 6) (me_int)) (ma_nil)))))
    (mss_one (ms_ret (me_tup (ma_cons (me_str [116, 105, 109, 101, 115]) (ma_cons (me_callG F__law_shape hr (Nat.le_refl _) tk (ma_cons (me_var 0) (ma_cons (me_var 1) (ma_cons (me_var 2) (ma_cons (me_mul rfl (me_var 3) (me_var 6)) (ma_cons (me_sub (me_var 4) (me_int)) (ma_nil))))))) (ma_cons (me_var 7) (ma_cons (me_var 6) (ma_nil)))))))))) (mss_nil))
    (mss_cons (ms_set 8 sc__law_shape.nd (me_add rfl (me_int) (me_callG F__law_take hr (Nat.le_trans (by decide) hk) tk (ma_cons (me_var 0) (ma_cons (me_int) (ma_nil))))))
    (mss_cons (ms_set 9 sc__law_shape.nd (me_callT (call_tupleX rfl) bTupleX_ok z_tuple (by decide +kernel) (ma_cons (me_fz (me_lc (own := [("_law_turn", 10)]) rfl sc__law_shape.nd (mi_range1 (ma_cons (me_var 8) (ma_nil)) z_range) (blkOk_by (N := ["_law_hand_here", "_law_tongue_here", "_law_purse", "_law_factor", "_law_deep", "_law_which", "_law_high", "_law_low", "_law_many", "_law_parts", "_law_turn"]) (sc := defScope (topS 67)) (by decide +kernel)) (fun _ _ _ _ _ => mg_name 10 sc__law_shape.nd) (fun _ _ _ _ _ => mts_nil) (fun _ _ _ _ _ => me_callG F__law_shape hr (Nat.le_refl _) takes0 (ma_cons (me_var 0) (ma_cons (me_var 1) (ma_cons (me_var 2) (ma_cons (me_var 3) (ma_cons (me_sub (me_var 4) (me_int)) (ma_nil))))))))) (ma_nil))))
    (mss_cons (ms_if (mt_cmp op_lt opS_C (me_var 5) (me_int)) (mss_one (ms_ret (me_tup (ma_cons (me_str [114, 111, 119]) (ma_cons (me_var 9) (ma_nil)))))) (mss_nil))
    (mss_one (ms_ret (me_tup (ma_cons (me_str [101, 105, 116, 104, 101, 114]) (ma_cons (me_var 9) (ma_nil)))))))))))))
noncomputable def scc__law_shape : Nat → MF
  | 0 => (mNo)
  | n + 1 => (B__law_shape (scc__law_shape n))
noncomputable def m__law_shape (n : Nat) : MF := (scc__law_shape n)
theorem m__law_shape_succ (n : Nat) : m__law_shape (n + 1) = B__law_shape (m__law_shape n) := rfl
theorem ok_scc__law_shape {P : Program} {w : World} {K : PySem.W.Frag} {mg : Str → Option Value} {base : Heap} {cl : Str → Addr} (d__law_shape : DefAt K mg "_law_shape" (topS 67) ["_law_hand_here", "_law_tongue_here", "_law_purse", "_law_factor", "_law_deep"]) (z_range : mg "range" = none) (z_tuple : mg "tuple" = none) (F__law_take : FnG P w K mg base ⟨K, cl⟩ "_law_take" 1 2 m__law_take) (F__law_one : FnG P w K mg base ⟨K, cl⟩ "_law_one" 2 2 m__law_one) (n : Nat) : FnG P w K mg base ⟨K, cl⟩ "_law_shape" (2 + n) 5 (m__law_shape n) := by
  induction n with
  | zero => exact fnG_no d__law_shape rfl
  | succ n ih => exact d__law_shape.fn fun f fd F => okf__law_shape (Nat.le_add_right _ _) F z_range z_tuple F__law_take F__law_one ih
/-! _law_book_written -/
noncomputable def b__law_book_written_1 : MS := msExpr (mMeth "list" fAppend (mVar 1) (mCons (mOp dAdd (mOp dAdd (mOp dAdd (mC (.str [114, 117, 108, 101, 32])) (mVar 2)) (mC (.str [32]))) (mCall 1 ((m__law_written 24)) (mCons (mVar 3) (mNil)))) (mNil)))
noncomputable def e__law_book_written_2 : ME := mOp dAdd (mVar 4) (mC (.str [10]))
noncomputable def m__law_book_written : MF := fnM 5 (msCons (msSet 1 (mLst (mCons (mOp dAdd (mC (.str [116, 111, 110, 103, 117, 101, 32])) (mCall 1 (m__law_quote) (mCons (mOp dIx (mVar 0) (mC (.int 0))) (mNil)))) (mNil))))
    (msCons (msFor (iSeq (mOp dIx (mVar 0) (mC (.int 1)))) (gSets [2, 3]) b__law_book_written_1)
    (msRet (mMeth "str" fJoin (mC (.str [])) (mCons (mFz (mLc (iSeq (mVar 1)) (gSet 4) mYes e__law_book_written_2 [4])) (mNil))))))
theorem sc__law_book_written : FnScope ["_law_book_here", "_law_lines", "_law_name_here", "_law_shape_here", "_law_line"] ["_law_book_here"] (defScope (topS 73)) := ⟨rfl, rfl, rfl, by decide +kernel, rfl, by decide +kernel, by decide +kernel⟩
theorem okf__law_book_written {P : Program} {w : World} {K : PySem.W.Frag} {mg : Str → Option Value} {base : Heap} {cl : Str → Addr} {f : Addr} {fd : FuncData} (F : Fun K "_law_book_written" "_law_book_written" (topS 73) f fd) (F__law_quote : FnG P w K mg base ⟨K, cl⟩ "_law_quote" 1 1 m__law_quote) (F__law_written : FnG P w K mg base ⟨K, cl⟩ "_law_written" 25 1 (m__law_written 24)) : FnOk P w K mg base (L2.CX P w) 26 f fd ["_law_book_here"] (FSp ⟨K, cl⟩ 1 m__law_book_written) :=
  fnPM F sc__law_book_written rfl fun cdv A outer s H E hr tk hp => mss_cons (ms_set 1 sc__law_book_written.nd (me_lst (ma_cons (me_add rfl (me_str [116, 111, 110, 103, 117, 101, 32]) (me_callG F__law_quote hr (by decide) tk (ma_cons (me_ix rfl (me_var 0) (me_int)) (ma_nil)))) (ma_nil))))
    (mss_cons (ms_for rfl hp (mi_seq rfl (me_ix rfl (me_var 0) (me_int))) (mg_tup rfl rfl (.cons (pg_name (i := 2) sc__law_book_written.nd rfl (by first | exact Or.inl rfl | exact Or.inr rfl)) (.cons (pg_name (i := 3) sc__law_book_written.nd rfl (by first | exact Or.inl rfl | exact Or.inr rfl)) (.nil) rfl) rfl)) (mss_one (ms_expr (me_meth rfl PySem.F.plainAttrs_list PySem.F.slot_list_append PySem.F.type_list_append mt_append fAppend_ok (me_var 1) (ma_cons (me_add rfl (me_add rfl (me_add rfl (me_str [114, 117, 108, 101, 32]) (me_var 2)) (me_str [32])) (me_callG F__law_written hr (by decide) tk (ma_cons (me_var 3) (ma_nil)))) (ma_nil))))))
    (mss_one (ms_ret (me_meth rfl PySem.F.plainAttrs_str PySem.F.slot_str_join PySem.F.type_str_join mt_join fJoin_ok (me_str []) (ma_cons (me_fz (me_lc (own := [("_law_line", 4)]) rfl sc__law_book_written.nd (mi_seq rfl (me_var 1)) (blkOk_by (N := ["_law_book_here", "_law_lines", "_law_name_here", "_law_shape_here", "_law_line"]) (sc := defScope (topS 73)) (by decide +kernel)) (fun _ _ _ _ _ => mg_name 4 sc__law_book_written.nd) (fun _ _ _ _ _ => mts_nil) (fun _ _ _ _ _ => me_add rfl (me_var 4) (me_str [10])))) (ma_nil))))))
theorem ok__law_book_written {P : Program} {w : World} {K : PySem.W.Frag} {mg : Str → Option Value} {base : Heap} {cl : Str → Addr} (d : DefAt K mg "_law_book_written" (topS 73) ["_law_book_here"]) (F__law_quote : FnG P w K mg base ⟨K, cl⟩ "_law_quote" 1 1 m__law_quote) (F__law_written : FnG P w K mg base ⟨K, cl⟩ "_law_written" 25 1 (m__law_written 24)) : FnG P w K mg base ⟨K, cl⟩ "_law_book_written" 26 1 m__law_book_written := d.fn fun f fd F => okf__law_book_written F F__law_quote F__law_written
/-! counted -/
noncomputable def b_counted_1 (r_counted : MF) : MS := msCons (msSet 4 (mCall 2 (r_counted) (mCons (mVar 3) (mCons (mOp dSub (mVar 1) (mC (.int 1))) (mNil)))))
    (msCons (msIf (mTb (mOp (dEq false) (mVar 4) (mC (.int 0)))) (msRet (mC (.int 0))) (msNil))
    (msSet 2 (mFz (mOp dAdd (mVar 2) (mVar 4)))))
noncomputable def B_counted (r_counted : MF) : MF := fnM 5 (msCons (msIf (mOr (mTb (mOp (dEq false) (mVar 1) (mC (.int 0)))) (mNot (mTr (mCall 1 (m_is_form) (mCons (mVar 0) (mNil)))))) (msRet (mC (.int 0))) (msNil))
    (msCons (msSet 2 (mC (.int 1)))
    (msCons (msFor (iSeq (mCall 1 (m_inner) (mCons (mVar 0) (mNil)))) (gSet 3) (b_counted_1 r_counted))
    (msRet (mVar 2)))))
theorem sc_counted : FnScope ["thing", "deep", "found", "part", "below"] ["thing", "deep"] (defScope (topS 22)) := ⟨rfl, rfl, rfl, by decide +kernel, rfl, by decide +kernel, by decide +kernel⟩
theorem okf_counted {P : Program} {w : World} {K : PySem.W.Frag} {mg : Str → Option Value} {base : Heap} {cl : Str → Addr} {k : Nat} {r_counted : MF} (hk : 3 ≤ k) {f : Addr} {fd : FuncData} (F : Fun K "counted" "counted" (topS 22) f fd) (F_is_form : FnG P w K mg base ⟨K, cl⟩ "is_form" 3 1 m_is_form) (F_inner : FnG P w K mg base ⟨K, cl⟩ "inner" 1 1 m_inner) (F_counted : FnG P w K mg base ⟨K, cl⟩ "counted" k 2 r_counted) : FnOk P w K mg base (L2.CX P w) (k + 1) f fd ["thing", "deep"] (FSp ⟨K, cl⟩ 2 (B_counted r_counted)) :=
  fnPM F sc_counted rfl fun cdv A outer s H E hr tk hp => mss_cons (ms_if (mt_w (mw_or (mt_cmp (op_eqP hr.units) (dEq_ok rfl) (me_var 1) (me_int)) (mw_or1 (mt_not (mt_val rfl (me_callG F_is_form hr (Nat.le_trans (by decide) hk) tk (ma_cons (me_var 0) (ma_nil)))))))) (mss_one (ms_ret (me_int))) (mss_nil))
    (mss_cons (ms_set 2 sc_counted.nd (me_int))
    (mss_cons (ms_for rfl hp (mi_seq rfl (me_callG F_inner hr (Nat.le_trans (by decide) hk) tk (ma_cons (me_var 0) (ma_nil)))) (mg_name 3 sc_counted.nd) (mss_cons (ms_set 4 sc_counted.nd (me_callG F_counted hr (Nat.le_refl _) tk (ma_cons (me_var 3) (ma_cons (me_sub (me_var 1) (me_int)) (ma_nil)))))
    (mss_cons (ms_if (mt_cmp (op_eqP hr.units) (dEq_ok rfl) (me_var 4) (me_int)) (mss_one (ms_ret (me_int))) (mss_nil))
    (mss_one (ms_set 2 sc_counted.nd (me_fz (me_add rfl (me_var 2) (me_var 4))))))))
    (mss_one (ms_ret (me_var 2)))))
noncomputable def scc_counted : Nat → MF
  | 0 => (mNo)
  | n + 1 => (B_counted (scc_counted n))
noncomputable def m_counted (n : Nat) : MF := (scc_counted n)
theorem m_counted_succ (n : Nat) : m_counted (n + 1) = B_counted (m_counted n) := rfl
theorem ok_scc_counted {P : Program} {w : World} {K : PySem.W.Frag} {mg : Str → Option Value} {base : Heap} {cl : Str → Addr} (d_counted : DefAt K mg "counted" (topS 22) ["thing", "deep"]) (F_is_form : FnG P w K mg base ⟨K, cl⟩ "is_form" 3 1 m_is_form) (F_inner : FnG P w K mg base ⟨K, cl⟩ "inner" 1 1 m_inner) (n : Nat) : FnG P w K mg base ⟨K, cl⟩ "counted" (3 + n) 2 (m_counted n) := by
  induction n with
  | zero => exact fnG_no d_counted rfl
  | succ n ih => exact d_counted.fn fun f fd F => okf_counted (Nat.le_add_right _ _) F F_is_form F_inner ih
/-! parts_at -/
noncomputable def t_parts_at_1 (r_parts_at r_times_at r_shape_at : MF) : MT := mTr (mC (.bl true))
noncomputable def b_parts_at_2 (r_parts_at r_times_at r_shape_at : MF) : MS := msCons (msSetT (gSets [5, 1]) (mCall 3 (r_shape_at) (mCons (mVar 0) (mCons (mVar 1) (mCons (mVar 3) (mNil))))))
    (msCons (msExpr (mMeth "list" fAppend (mVar 4) (mCons (mVar 5) (mNil))))
    (msCons (msSet 6 (mFz (mSlice (mVar 0) (moSome (mVar 1)) (moSome (mOp dAdd (mVar 1) (mC (.int 1)))))))
    (msCons (msAug 1 dIAdd (mC (.int 1)))
    (msCons (msIf (mTb (mOp (dEq false) (mVar 6) (mVar 2))) (msRet (mTup (mCons (mB bTupleX (mCons (mVar 4) (mNil))) (mCons (mVar 1) (mNil))))) (msNil))
    (msIf (mTb (mOp (dEq true) (mVar 6) (mC (.str [32])))) (msRaise "NoShape") (msNil))))))
noncomputable def B_parts_at (r_parts_at r_times_at r_shape_at : MF) : MF := fnM 7 (msCons (msIf (mTb (mOp (dEq false) (mFz (mSlice (mVar 0) (moSome (mVar 1)) (moSome (mOp dAdd (mVar 1) (mC (.int 1)))))) (mVar 2))) (msRet (mTup (mCons (mTup (mNil)) (mCons (mOp dAdd (mVar 1) (mC (.int 1))) (mNil))))) (msNil))
    (msCons (msSet 4 (mLst (mNil)))
    (msWhile (t_parts_at_1 r_parts_at r_times_at r_shape_at) (b_parts_at_2 r_parts_at r_times_at r_shape_at))))
theorem sc_parts_at : FnScope ["text", "at", "close", "deep", "parts", "part", "sign"] ["text", "at", "close", "deep"] (defScope (topS 47)) := ⟨rfl, rfl, rfl, by decide +kernel, rfl, by decide +kernel, by decide +kernel⟩
theorem okf_parts_at {P : Program} {w : World} {K : PySem.W.Frag} {mg : Str → Option Value} {base : Heap} {cl : Str → Addr} {k : Nat} {r_parts_at r_times_at r_shape_at : MF} (hk : 3 ≤ k) {f : Addr} {fd : FuncData} (F : Fun K "parts_at" "parts_at" (topS 47) f fd) (z_tuple : mg "tuple" = none) (x_NoShape : ExC1 K mg "NoShape" (cl "NoShape")) (F_parts_at : FnG P w K mg base ⟨K, cl⟩ "parts_at" k 4 r_parts_at) (F_times_at : FnG P w K mg base ⟨K, cl⟩ "times_at" k 3 r_times_at) (F_shape_at : FnG P w K mg base ⟨K, cl⟩ "shape_at" k 3 r_shape_at) : FnOk P w K mg base (L2.CX P w) (k + 1) f fd ["text", "at", "close", "deep"] (FSp ⟨K, cl⟩ 4 (B_parts_at r_parts_at r_times_at r_shape_at)) :=
  fnPM F sc_parts_at rfl fun cdv A outer s H E hr tk hp => mss_cons (ms_if (mt_cmp (op_eqP hr.units) (dEq_ok rfl) (me_fz (me_slice rfl (me_var 0) (moS (me_var 1)) (moS (me_add rfl (me_var 1) (me_int))))) (me_var 2)) (mss_one (ms_ret (me_tup (ma_cons (me_tup (ma_nil)) (ma_cons (me_add rfl (me_var 1) (me_int)) (ma_nil)))))) (mss_nil))
    (mss_cons (ms_set 4 sc_parts_at.nd (me_lst (ma_nil)))
    (mss_one (ms_while hp (mt_val rfl (me_bl)) (mss_cons (ms_setT (me_callG F_shape_at hr (Nat.le_refl _) tk (ma_cons (me_var 0) (ma_cons (me_var 1) (ma_cons (me_var 3) (ma_nil))))) (mg_tup rfl rfl (.cons (pg_name (i := 5) sc_parts_at.nd rfl (by first | exact Or.inl rfl | exact Or.inr rfl)) (.cons (pg_name (i := 1) sc_parts_at.nd rfl (by first | exact Or.inl rfl | exact Or.inr rfl)) (.nil) rfl) rfl)))
    (mss_cons (ms_expr (me_meth rfl PySem.F.plainAttrs_list PySem.F.slot_list_append PySem.F.type_list_append mt_append fAppend_ok (me_var 4) (ma_cons (me_var 5) (ma_nil))))
    (mss_cons (ms_set 6 sc_parts_at.nd (me_fz (me_slice rfl (me_var 0) (moS (me_var 1)) (moS (me_add rfl (me_var 1) (me_int))))))
    (mss_cons (ms_aug 1 sc_parts_at.nd iop_addA iadd_ok (me_int))
    (mss_cons (ms_if (mt_cmp (op_eqP hr.units) (dEq_ok rfl) (me_var 6) (me_var 2)) (mss_one (ms_ret (me_tup (ma_cons (me_callT (call_tupleX rfl) bTupleX_ok z_tuple (by decide +kernel) (ma_cons (me_var 4) (ma_nil))) (ma_cons (me_var 1) (ma_nil)))))) (mss_nil))
    (mss_one (ms_if (mt_cmp (op_neP hr.units) (dNe_ok rfl) (me_var 6) (me_str [32])) (mss_one (ms_raise rfl tk x_NoShape)) (mss_nil)))))))))))
/-! times_at -/
noncomputable def B_times_at (r_parts_at r_times_at r_shape_at : MF) : MF := fnM 7 (msCons (msSet 3 (mCall 2 (m_figure_at) (mCons (mVar 0) (mCons (mVar 1) (mNil)))))
    (msCons (msSet 4 (mCall 2 (m_figure_at) (mCons (mVar 0) (mCons (mOp dAdd (mVar 1) (mC (.int 2))) (mNil)))))
    (msCons (msIf (mOr (mTb (mOp (dEq true) (mOp dIx (mVar 0) (mOp dAdd (mVar 1) (mC (.int 1)))) (mC (.str [45])))) (mTb (mOp (dEq true) (mFz (mSlice (mVar 0) (moSome (mOp dAdd (mVar 1) (mC (.int 3)))) (moSome (mOp dAdd (mVar 1) (mC (.int 4)))))) (mC (.str [58]))))) (msRaise "NoShape") (msNil))
    (msCons (msSetT (gSets [5, 6]) (mCall 3 (r_shape_at) (mCons (mVar 0) (mCons (mOp dAdd (mVar 1) (mC (.int 4))) (mCons (mOp dSub (mVar 2) (mC (.int 1))) (mNil))))))
    (msRet (mTup (mCons (mTup (mCons (mC (.str [116, 105, 109, 101, 115])) (mCons (mVar 5) (mCons (mVar 3) (mCons (mVar 4) (mNil)))))) (mCons (mVar 6) (mNil)))))))))
theorem sc_times_at : FnScope ["text", "at", "deep", "low", "high", "part", "end"] ["text", "at", "deep"] (defScope (topS 49)) := ⟨rfl, rfl, rfl, by decide +kernel, rfl, by decide +kernel, by decide +kernel⟩
theorem okf_times_at {P : Program} {w : World} {K : PySem.W.Frag} {mg : Str → Option Value} {base : Heap} {cl : Str → Addr} {k : Nat} {r_parts_at r_times_at r_shape_at : MF} (hk : 3 ≤ k) {f : Addr} {fd : FuncData} (F : Fun K "times_at" "times_at" (topS 49) f fd) (x_NoShape : ExC1 K mg "NoShape" (cl "NoShape")) (F_figure_at : FnG P w K mg base ⟨K, cl⟩ "figure_at" 1 2 m_figure_at) (F_parts_at : FnG P w K mg base ⟨K, cl⟩ "parts_at" k 4 r_parts_at) (F_times_at : FnG P w K mg base ⟨K, cl⟩ "times_at" k 3 r_times_at) (F_shape_at : FnG P w K mg base ⟨K, cl⟩ "shape_at" k 3 r_shape_at) : FnOk P w K mg base (L2.CX P w) (k + 1) f fd ["text", "at", "deep"] (FSp ⟨K, cl⟩ 3 (B_times_at r_parts_at r_times_at r_shape_at)) :=
  fnPM F sc_times_at rfl fun cdv A outer s H E hr tk hp => mss_cons (ms_set 3 sc_times_at.nd (me_callG F_figure_at hr (Nat.le_trans (by decide) hk) tk (ma_cons (me_var 0) (ma_cons (me_var 1) (ma_nil)))))
    (mss_cons (ms_set 4 sc_times_at.nd (me_callG F_figure_at hr (Nat.le_trans (by decide) hk) tk (ma_cons (me_var 0) (ma_cons (me_add rfl (me_var 1) (me_int)) (ma_nil)))))
    (mss_cons (ms_if (mt_w (mw_or (mt_cmp (op_neP hr.units) (dNe_ok rfl) (me_ix rfl (me_var 0) (me_add rfl (me_var 1) (me_int))) (me_str [45])) (mw_or1 (mt_cmp (op_neP hr.units) (dNe_ok rfl) (me_fz (me_slice rfl (me_var 0) (moS (me_add rfl (me_var 1) (me_int))) (moS (me_add rfl (me_var 1) (me_int))))) (me_str [58]))))) (mss_one (ms_raise rfl tk x_NoShape)) (mss_nil))
    (mss_cons (ms_setT (me_callG F_shape_at hr (Nat.le_refl _) tk (ma_cons (me_var 0) (ma_cons (me_add rfl (me_var 1) (me_int)) (ma_cons (me_sub (me_var 2) (me_int)) (ma_nil))))) (mg_tup rfl rfl (.cons (pg_name (i := 5) sc_times_at.nd rfl (by first | exact Or.inl rfl | exact Or.inr rfl)) (.cons (pg_name (i := 6) sc_times_at.nd rfl (by first | exact Or.inl rfl | exact Or.inr rfl)) (.nil) rfl) rfl)))
    (mss_one (ms_ret (me_tup (ma_cons (me_tup (ma_cons (me_str [116, 105, 109, 101, 115]) (ma_cons (me_var 5) (ma_cons (me_var 3) (ma_cons (me_var 4) (ma_nil)))))) (ma_cons (me_var 6) (ma_nil)))))))))
/-! shape_at -/
noncomputable def B_shape_at (r_parts_at r_times_at r_shape_at : MF) : MF := fnM 7 (msCons (msSet 3 (mFz (mSlice (mVar 0) (moSome (mVar 1)) (moSome (mOp dAdd (mVar 1) (mC (.int 1)))))))
    (msCons (msIf (mTb (mOp (dEq false) (mVar 2) (mC (.int 0)))) (msRaise "NoShape") (msNil))
    (msCons (msIf (mTb (mOp (dEq false) (mVar 3) (mC (.str [60])))) (msRet (mCall 2 (m_one_at) (mCons (mVar 0) (mCons (mVar 1) (mNil))))) (msNil))
    (msCons (msIf (mTb (mOp (dEq false) (mVar 3) (mC (.str [40])))) (msCons (msSetT (gSets [4, 5]) (mCall 4 (r_parts_at) (mCons (mVar 0) (mCons (mOp dAdd (mVar 1) (mC (.int 1))) (mCons (mC (.str [41])) (mCons (mOp dSub (mVar 2) (mC (.int 1))) (mNil)))))))
    (msRet (mTup (mCons (mTup (mCons (mC (.str [114, 111, 119])) (mCons (mVar 4) (mNil)))) (mCons (mVar 5) (mNil)))))) (msNil))
    (msCons (msIf (mTb (mOp (dEq false) (mVar 3) (mC (.str [123])))) (msCons (msSetT (gSets [4, 5]) (mCall 4 (r_parts_at) (mCons (mVar 0) (mCons (mOp dAdd (mVar 1) (mC (.int 1))) (mCons (mC (.str [125])) (mCons (mOp dSub (mVar 2) (mC (.int 1))) (mNil)))))))
    (msRet (mTup (mCons (mTup (mCons (mC (.str [101, 105, 116, 104, 101, 114])) (mCons (mVar 4) (mNil)))) (mCons (mVar 5) (mNil)))))) (msNil))
    (msCons (msIf (mTb (mOp (dEq false) (mVar 3) (mC (.str [42])))) (msCons (msSetT (gSets [6, 5]) (mCall 3 (r_shape_at) (mCons (mVar 0) (mCons (mOp dAdd (mVar 1) (mC (.int 1))) (mCons (mOp dSub (mVar 2) (mC (.int 1))) (mNil))))))
    (msRet (mTup (mCons (mTup (mCons (mC (.str [109, 97, 110, 121])) (mCons (mVar 6) (mNil)))) (mCons (mVar 5) (mNil)))))) (msNil))
    (msRet (mCall 3 (r_times_at) (mCons (mVar 0) (mCons (mVar 1) (mCons (mVar 2) (mNil))))))))))))
theorem sc_shape_at : FnScope ["text", "at", "deep", "sign", "parts", "end", "part"] ["text", "at", "deep"] (defScope (topS 50)) := ⟨rfl, rfl, rfl, by decide +kernel, rfl, by decide +kernel, by decide +kernel⟩
theorem okf_shape_at {P : Program} {w : World} {K : PySem.W.Frag} {mg : Str → Option Value} {base : Heap} {cl : Str → Addr} {k : Nat} {r_parts_at r_times_at r_shape_at : MF} (hk : 3 ≤ k) {f : Addr} {fd : FuncData} (F : Fun K "shape_at" "shape_at" (topS 50) f fd) (x_NoShape : ExC1 K mg "NoShape" (cl "NoShape")) (F_one_at : FnG P w K mg base ⟨K, cl⟩ "one_at" 3 2 m_one_at) (F_parts_at : FnG P w K mg base ⟨K, cl⟩ "parts_at" k 4 r_parts_at) (F_times_at : FnG P w K mg base ⟨K, cl⟩ "times_at" k 3 r_times_at) (F_shape_at : FnG P w K mg base ⟨K, cl⟩ "shape_at" k 3 r_shape_at) : FnOk P w K mg base (L2.CX P w) (k + 1) f fd ["text", "at", "deep"] (FSp ⟨K, cl⟩ 3 (B_shape_at r_parts_at r_times_at r_shape_at)) :=
  fnPM F sc_shape_at rfl fun cdv A outer s H E hr tk hp => mss_cons (ms_set 3 sc_shape_at.nd (me_fz (me_slice rfl (me_var 0) (moS (me_var 1)) (moS (me_add rfl (me_var 1) (me_int))))))
    (mss_cons (ms_if (mt_cmp (op_eqP hr.units) (dEq_ok rfl) (me_var 2) (me_int)) (mss_one (ms_raise rfl tk x_NoShape)) (mss_nil))
    (mss_cons (ms_if (mt_cmp (op_eqP hr.units) (dEq_ok rfl) (me_var 3) (me_str [60])) (mss_one (ms_ret (me_callG F_one_at hr (Nat.le_trans (by decide) hk) tk (ma_cons (me_var 0) (ma_cons (me_var 1) (ma_nil)))))) (mss_nil))
    (mss_cons (ms_if (mt_cmp (op_eqP hr.units) (dEq_ok rfl) (me_var 3) (me_str [40])) (mss_cons (ms_setT (me_callG F_parts_at hr (Nat.le_refl _) tk (ma_cons (me_var 0) (ma_cons (me_add rfl (me_var 1) (me_int)) (ma_cons (me_str [41]) (ma_cons (me_sub (me_var 2) (me_int)) (ma_nil)))))) (mg_tup rfl rfl (.cons (pg_name (i := 4) sc_shape_at.nd rfl (by first | exact Or.inl rfl | exact Or.inr rfl)) (.cons (pg_name (i := 5) sc_shape_at.nd rfl (by first | exact Or.inl rfl | exact Or.inr rfl)) (.nil) rfl) rfl)))
    (mss_one (ms_ret (me_tup (ma_cons (me_tup (ma_cons (me_str [114, 111, 119]) (ma_cons (me_var 4) (ma_nil)))) (ma_cons (me_var 5) (ma_nil))))))) (mss_nil))
    (mss_cons (ms_if (mt_cmp (op_eqP hr.units) (dEq_ok rfl) (me_var 3) (me_str [123])) (mss_cons (ms_setT (me_callG F_parts_at hr (Nat.le_refl _) tk (ma_cons (me_var 0) (ma_cons (me_add rfl (me_var 1) (me_int)) (ma_cons (me_str [125]) (ma_cons (me_sub (me_var 2) (me_int)) (ma_nil)))))) (mg_tup rfl rfl (.cons (pg_name (i := 4) sc_shape_at.nd rfl (by first | exact Or.inl rfl | exact Or.inr rfl)) (.cons (pg_name (i := 5) sc_shape_at.nd rfl (by first | exact Or.inl rfl | exact Or.inr rfl)) (.nil) rfl) rfl)))
    (mss_one (ms_ret (me_tup (ma_cons (me_tup (ma_cons (me_str [101, 105, 116, 104, 101, 114]) (ma_cons (me_var 4) (ma_nil)))) (ma_cons (me_var 5) (ma_nil))))))) (mss_nil))
    (mss_cons (ms_if (mt_cmp (op_eqP hr.units) (dEq_ok rfl) (me_var 3) (me_str [42])) (mss_cons (ms_setT (me_callG F_shape_at hr (Nat.le_refl _) tk (ma_cons (me_var 0) (ma_cons (me_add rfl (me_var 1) (me_int)) (ma_cons (me_sub (me_var 2) (me_int)) (ma_nil))))) (mg_tup rfl rfl (.cons (pg_name (i := 6) sc_shape_at.nd rfl (by first | exact Or.inl rfl | exact Or.inr rfl)) (.cons (pg_name (i := 5) sc_shape_at.nd rfl (by first | exact Or.inl rfl | exact Or.inr rfl)) (.nil) rfl) rfl)))
    (mss_one (ms_ret (me_tup (ma_cons (me_tup (ma_cons (me_str [109, 97, 110, 121]) (ma_cons (me_var 6) (ma_nil)))) (ma_cons (me_var 5) (ma_nil))))))) (mss_nil))
    (mss_one (ms_ret (me_callG F_times_at hr (Nat.le_refl _) tk (ma_cons (me_var 0) (ma_cons (me_var 1) (ma_cons (me_var 2) (ma_nil))))))))))))
noncomputable def scc_parts_at : Nat → MF × MF × MF
  | 0 => (mNo, mNo, mNo)
  | n + 1 => (B_parts_at (scc_parts_at n).1 (scc_parts_at n).2.1 (scc_parts_at n).2.2, B_times_at (scc_parts_at n).1 (scc_parts_at n).2.1 (scc_parts_at n).2.2, B_shape_at (scc_parts_at n).1 (scc_parts_at n).2.1 (scc_parts_at n).2.2)
noncomputable def m_parts_at (n : Nat) : MF := (scc_parts_at n).1
noncomputable def m_times_at (n : Nat) : MF := (scc_parts_at n).2.1
noncomputable def m_shape_at (n : Nat) : MF := (scc_parts_at n).2.2
theorem m_parts_at_succ (n : Nat) : m_parts_at (n + 1) = B_parts_at (m_parts_at n) (m_times_at n) (m_shape_at n) := rfl
theorem m_times_at_succ (n : Nat) : m_times_at (n + 1) = B_times_at (m_parts_at n) (m_times_at n) (m_shape_at n) := rfl
theorem m_shape_at_succ (n : Nat) : m_shape_at (n + 1) = B_shape_at (m_parts_at n) (m_times_at n) (m_shape_at n) := rfl
theorem ok_scc_parts_at {P : Program} {w : World} {K : PySem.W.Frag} {mg : Str → Option Value} {base : Heap} {cl : Str → Addr} (d_parts_at : DefAt K mg "parts_at" (topS 47) ["text", "at", "close", "deep"]) (d_times_at : DefAt K mg "times_at" (topS 49) ["text", "at", "deep"]) (d_shape_at : DefAt K mg "shape_at" (topS 50) ["text", "at", "deep"]) (z_tuple : mg "tuple" = none) (x_NoShape : ExC1 K mg "NoShape" (cl "NoShape")) (F_figure_at : FnG P w K mg base ⟨K, cl⟩ "figure_at" 1 2 m_figure_at) (F_one_at : FnG P w K mg base ⟨K, cl⟩ "one_at" 3 2 m_one_at) (n : Nat) : FnG P w K mg base ⟨K, cl⟩ "parts_at" (3 + n) 4 (m_parts_at n) ∧ FnG P w K mg base ⟨K, cl⟩ "times_at" (3 + n) 3 (m_times_at n) ∧ FnG P w K mg base ⟨K, cl⟩ "shape_at" (3 + n) 3 (m_shape_at n) := by
  induction n with
  | zero => exact ⟨fnG_no d_parts_at rfl, fnG_no d_times_at rfl, fnG_no d_shape_at rfl⟩
  | succ n ih => exact ⟨d_parts_at.fn fun f fd F => okf_parts_at (Nat.le_add_right _ _) F z_tuple x_NoShape ih.1 ih.2.1 ih.2.2, d_times_at.fn fun f fd F => okf_times_at (Nat.le_add_right _ _) F x_NoShape F_figure_at ih.1 ih.2.1 ih.2.2, d_shape_at.fn fun f fd F => okf_shape_at (Nat.le_add_right _ _) F x_NoShape F_one_at ih.1 ih.2.1 ih.2.2⟩
/-! book_text -/
noncomputable def b_book_text_1 : MS := msExpr (mMeth "list" fAppend (mVar 1) (mCons (mOp dAdd (mOp dAdd (mOp dAdd (mC (.str [114, 117, 108, 101, 32])) (mVar 2)) (mC (.str [32]))) (mCall 1 ((m_shape_text 24)) (mCons (mVar 3) (mNil)))) (mNil)))
noncomputable def e_book_text_2 : ME := mOp dAdd (mVar 4) (mC (.str [10]))
noncomputable def m_book_text : MF := fnM 5 (msCons (msSet 1 (mLst (mCons (mOp dAdd (mC (.str [116, 111, 110, 103, 117, 101, 32])) (mCall 1 (m_quoted) (mCons (mOp dIx (mVar 0) (mC (.int 0))) (mNil)))) (mNil))))
    (msCons (msFor (iSeq (mOp dIx (mVar 0) (mC (.int 1)))) (gSets [2, 3]) b_book_text_1)
    (msRet (mMeth "str" fJoin (mC (.str [])) (mCons (mFz (mLc (iSeq (mVar 1)) (gSet 4) mYes e_book_text_2 [4])) (mNil))))))
theorem sc_book_text : FnScope ["book", "lines", "name", "shape", "line"] ["book"] (defScope (topS 54)) := ⟨rfl, rfl, rfl, by decide +kernel, rfl, by decide +kernel, by decide +kernel⟩
theorem okf_book_text {P : Program} {w : World} {K : PySem.W.Frag} {mg : Str → Option Value} {base : Heap} {cl : Str → Addr} {f : Addr} {fd : FuncData} (F : Fun K "book_text" "book_text" (topS 54) f fd) (F_quoted : FnG P w K mg base ⟨K, cl⟩ "quoted" 2 1 m_quoted) (F_shape_text : FnG P w K mg base ⟨K, cl⟩ "shape_text" 26 1 (m_shape_text 24)) : FnOk P w K mg base (L2.CX P w) 27 f fd ["book"] (FSp ⟨K, cl⟩ 1 m_book_text) :=
  fnPM F sc_book_text rfl fun cdv A outer s H E hr tk hp => mss_cons (ms_set 1 sc_book_text.nd (me_lst (ma_cons (me_add rfl (me_str [116, 111, 110, 103, 117, 101, 32]) (me_callG F_quoted hr (by decide) tk (ma_cons (me_ix rfl (me_var 0) (me_int)) (ma_nil)))) (ma_nil))))
    (mss_cons (ms_for rfl hp (mi_seq rfl (me_ix rfl (me_var 0) (me_int))) (mg_tup rfl rfl (.cons (pg_name (i := 2) sc_book_text.nd rfl (by first | exact Or.inl rfl | exact Or.inr rfl)) (.cons (pg_name (i := 3) sc_book_text.nd rfl (by first | exact Or.inl rfl | exact Or.inr rfl)) (.nil) rfl) rfl)) (mss_one (ms_expr (me_meth rfl PySem.F.plainAttrs_list PySem.F.slot_list_append PySem.F.type_list_append mt_append fAppend_ok (me_var 1) (ma_cons (me_add rfl (me_add rfl (me_add rfl (me_str [114, 117, 108, 101, 32]) (me_var 2)) (me_str [32])) (me_callG F_shape_text hr (by decide) tk (ma_cons (me_var 3) (ma_nil)))) (ma_nil))))))
    (mss_one (ms_ret (me_meth rfl PySem.F.plainAttrs_str PySem.F.slot_str_join PySem.F.type_str_join mt_join fJoin_ok (me_str []) (ma_cons (me_fz (me_lc (own := [("line", 4)]) rfl sc_book_text.nd (mi_seq rfl (me_var 1)) (blkOk_by (N := ["book", "lines", "name", "shape", "line"]) (sc := defScope (topS 54)) (by decide +kernel)) (fun _ _ _ _ _ => mg_name 4 sc_book_text.nd) (fun _ _ _ _ _ => mts_nil) (fun _ _ _ _ _ => me_add rfl (me_var 4) (me_str [10])))) (ma_nil))))))
theorem ok_book_text {P : Program} {w : World} {K : PySem.W.Frag} {mg : Str → Option Value} {base : Heap} {cl : Str → Addr} (d : DefAt K mg "book_text" (topS 54) ["book"]) (F_quoted : FnG P w K mg base ⟨K, cl⟩ "quoted" 2 1 m_quoted) (F_shape_text : FnG P w K mg base ⟨K, cl⟩ "shape_text" 26 1 (m_shape_text 24)) : FnG P w K mg base ⟨K, cl⟩ "book_text" 27 1 m_book_text := d.fn fun f fd F => okf_book_text F F_quoted F_shape_text
/-! _law_book -/
noncomputable def e__law_book_1 : ME := mOp dIx (mVar 7) (mC (.int 0))
noncomputable def b__law_book_2 : MS := msCons (msSetI (mVar 3) (mC (.int 1)) (mC (.int 24)))
    (msCons (msSet 6 (mCall 2 (m__law_name) (mCons (mVar 0) (mCons (mFz (mLc (iSeq (mVar 4)) (gSet 7) mYes e__law_book_1 [7])) (mNil)))))
    (msExpr (mMeth "list" fAppend (mVar 4) (mCons (mTup (mCons (mVar 6) (mCons (mCall 5 ((m__law_shape 24)) (mCons (mVar 0) (mCons (mVar 2) (mCons (mVar 3) (mCons (mC (.int 1)) (mCons (mOp dAdd (mC (.int 1)) (mCall 2 (m__law_take) (mCons (mVar 0) (mCons (mC (.int 5)) (mNil))))) (mNil))))))) (mNil)))) (mNil)))))
noncomputable def m__law_book : MF := fnM 8 (msCons (msSet 2 (mCall 1 (m__law_tongue) (mCons (mVar 0) (mNil))))
    (msCons (msSet 3 (mLst (mCons (mVar 1) (mCons (mC (.int 0)) (mNil)))))
    (msCons (msSet 4 (mLst (mNil)))
    (msCons (msFor (iRange1 (mCons (mCall 2 (m__law_take) (mCons (mVar 0) (mCons (mC (.int 7)) (mNil)))) (mNil))) (gSet 5) b__law_book_2)
    (msRet (mTup (mCons (mVar 2) (mCons (mB bTupleX (mCons (mVar 4) (mNil))) (mNil)))))))))
theorem sc__law_book : FnScope ["_law_hand_here", "_law_heavy", "_law_tongue_here", "_law_purse", "_law_rules", "_law_turn", "_law_name_here", "_law_rule"] ["_law_hand_here", "_law_heavy"] (defScope (topS 69)) := ⟨rfl, rfl, rfl, by decide +kernel, rfl, by decide +kernel, by decide +kernel⟩
theorem okf__law_book {P : Program} {w : World} {K : PySem.W.Frag} {mg : Str → Option Value} {base : Heap} {cl : Str → Addr} {f : Addr} {fd : FuncData} (F : Fun K "_law_book" "_law_book" (topS 69) f fd) (z_range : mg "range" = none) (z_tuple : mg "tuple" = none) (F__law_tongue : FnG P w K mg base ⟨K, cl⟩ "_law_tongue" 2 1 m__law_tongue) (F__law_take : FnG P w K mg base ⟨K, cl⟩ "_law_take" 1 2 m__law_take) (F__law_name : FnG P w K mg base ⟨K, cl⟩ "_law_name" 2 2 m__law_name) (F__law_shape : FnG P w K mg base ⟨K, cl⟩ "_law_shape" 26 5 (m__law_shape 24)) : FnOk P w K mg base (L2.CX P w) 27 f fd ["_law_hand_here", "_law_heavy"] (FSp ⟨K, cl⟩ 2 m__law_book) :=
  fnPM F sc__law_book rfl fun cdv A outer s H E hr tk hp => mss_cons (ms_set 2 sc__law_book.nd (me_callG F__law_tongue hr (by decide) tk (ma_cons (me_var 0) (ma_nil))))
    (mss_cons (ms_set 3 sc__law_book.nd (me_lst (ma_cons (me_var 1) (ma_cons (me_int) (ma_nil)))))
    (mss_cons (ms_set 4 sc__law_book.nd (me_lst (ma_nil)))
    (mss_cons (ms_for rfl hp (mi_range1 (ma_cons (me_callG F__law_take hr (by decide) tk (ma_cons (me_var 0) (ma_cons (me_int) (ma_nil)))) (ma_nil)) z_range) (mg_name 5 sc__law_book.nd) (mss_cons (ms_setI (me_int) (me_var 3) (me_int))
    (mss_cons (ms_set 6 sc__law_book.nd (me_callG F__law_name hr (by decide) tk (ma_cons (me_var 0) (ma_cons (me_fz (me_lc (own := [("_law_rule", 7)]) rfl sc__law_book.nd (mi_seq rfl (me_var 4)) (blkOk_by (N := ["_law_hand_here", "_law_heavy", "_law_tongue_here", "_law_purse", "_law_rules", "_law_turn", "_law_name_here", "_law_rule"]) (sc := defScope (topS 69)) (by decide +kernel)) (fun _ _ _ _ _ => mg_name 7 sc__law_book.nd) (fun _ _ _ _ _ => mts_nil) (fun _ _ _ _ _ => me_ix rfl (me_var 7) (me_int)))) (ma_nil)))))
    (mss_one (ms_expr (me_meth rfl PySem.F.plainAttrs_list PySem.F.slot_list_append PySem.F.type_list_append mt_append fAppend_ok (me_var 4) (ma_cons (me_tup (ma_cons (me_var 6) (ma_cons (me_callG F__law_shape hr (by decide) tk (ma_cons (me_var 0) (ma_cons (me_var 2) (ma_cons (me_var 3) (ma_cons (me_int) (ma_cons (me_add rfl (me_int) (me_callG F__law_take hr (by decide) tk (ma_cons (me_var 0) (ma_cons (me_int) (ma_nil))))) (ma_nil))))))) (ma_nil)))) (ma_nil))))))))
    (mss_one (ms_ret (me_tup (ma_cons (me_var 2) (ma_cons (me_callT (call_tupleX rfl) bTupleX_ok z_tuple (by decide +kernel) (ma_cons (me_var 4) (ma_nil))) (ma_nil)))))))))
theorem ok__law_book {P : Program} {w : World} {K : PySem.W.Frag} {mg : Str → Option Value} {base : Heap} {cl : Str → Addr} (d : DefAt K mg "_law_book" (topS 69) ["_law_hand_here", "_law_heavy"]) (z_range : mg "range" = none) (z_tuple : mg "tuple" = none) (F__law_tongue : FnG P w K mg base ⟨K, cl⟩ "_law_tongue" 2 1 m__law_tongue) (F__law_take : FnG P w K mg base ⟨K, cl⟩ "_law_take" 1 2 m__law_take) (F__law_name : FnG P w K mg base ⟨K, cl⟩ "_law_name" 2 2 m__law_name) (F__law_shape : FnG P w K mg base ⟨K, cl⟩ "_law_shape" 26 5 (m__law_shape 24)) : FnG P w K mg base ⟨K, cl⟩ "_law_book" 27 2 m__law_book := d.fn fun f fd F => okf__law_book F z_range z_tuple F__law_tongue F__law_take F__law_name F__law_shape
/-! is_shape -/
noncomputable def m_is_shape : MF := fnM 1 (msRet (mChain dLe dLe (mC (.int 1)) (mCall 2 ((m_counted 24)) (mCons (mVar 0) (mCons (mC c_DEEPEST) (mNil)))) (mC c_MOST_PARTS)))
theorem sc_is_shape : FnScope ["thing"] ["thing"] (defScope (topS 23)) := ⟨rfl, rfl, rfl, by decide +kernel, rfl, by decide +kernel, by decide +kernel⟩
theorem okf_is_shape {P : Program} {w : World} {K : PySem.W.Frag} {mg : Str → Option Value} {base : Heap} {cl : Str → Addr} {f : Addr} {fd : FuncData} (F : Fun K "is_shape" "is_shape" (topS 23) f fd) (g_DEEPEST : GlC mg "DEEPEST" c_DEEPEST) (g_MOST_PARTS : GlC mg "MOST_PARTS" c_MOST_PARTS) (F_counted : FnG P w K mg base ⟨K, cl⟩ "counted" 27 2 (m_counted 24)) : FnOk P w K mg base (L2.CX P w) 28 f fd ["thing"] (FSp ⟨K, cl⟩ 1 m_is_shape) :=
  fnPM F sc_is_shape rfl fun cdv A outer s H E hr tk hp => mss_one (ms_ret (me_chain op_le opS_C op_le opS_C (me_int) (me_callG F_counted hr (by decide) tk (ma_cons (me_var 0) (ma_cons (me_globG g_DEEPEST) (ma_nil)))) (me_globG g_MOST_PARTS)))
theorem ok_is_shape {P : Program} {w : World} {K : PySem.W.Frag} {mg : Str → Option Value} {base : Heap} {cl : Str → Addr} (d : DefAt K mg "is_shape" (topS 23) ["thing"]) (g_DEEPEST : GlC mg "DEEPEST" c_DEEPEST) (g_MOST_PARTS : GlC mg "MOST_PARTS" c_MOST_PARTS) (F_counted : FnG P w K mg base ⟨K, cl⟩ "counted" 27 2 (m_counted 24)) : FnG P w K mg base ⟨K, cl⟩ "is_shape" 28 1 m_is_shape := d.fn fun f fd F => okf_is_shape F g_DEEPEST g_MOST_PARTS F_counted
/-! is_rule -/
noncomputable def m_is_rule : MF := fnM 2 (msCons (msIf (mOr (mNot (mTr (mIs "tuple" (mVar 0)))) (mTb (mOp (dEq true) (mB bLen (mCons (mVar 0) (mNil))) (mC (.int 2))))) (msRet (mC (.bl false))) (msNil))
    (msRet (mAndV (mCall 1 (m_is_name_books) (mCons (mOp dIx (mVar 0) (mC (.int 0))) (mNil))) (mAndV (mCall 1 (m_is_shape) (mCons (mOp dIx (mVar 0) (mC (.int 1))) (mNil))) (mCall 2 ((m_is_of 24)) (mCons (mOp dIx (mVar 0) (mC (.int 1))) (mCons (mVar 1) (mNil))))))))
theorem sc_is_rule : FnScope ["thing", "tongue"] ["thing", "tongue"] (defScope (topS 34)) := ⟨rfl, rfl, rfl, by decide +kernel, rfl, by decide +kernel, by decide +kernel⟩
theorem okf_is_rule {P : Program} {w : World} {K : PySem.W.Frag} {mg : Str → Option Value} {base : Heap} {cl : Str → Addr} {f : Addr} {fd : FuncData} (F : Fun K "is_rule" "is_rule" (topS 34) f fd) (z_isinstance : mg "isinstance" = none) (z_tuple : mg "tuple" = none) (z_len : mg "len" = none) (F_is_name_books : FnG P w K mg base ⟨K, cl⟩ "is_name_books" 1 1 m_is_name_books) (F_is_shape : FnG P w K mg base ⟨K, cl⟩ "is_shape" 28 1 m_is_shape) (F_is_of : FnG P w K mg base ⟨K, cl⟩ "is_of" 24 2 (m_is_of 24)) : FnOk P w K mg base (L2.CX P w) 29 f fd ["thing", "tongue"] (FSp ⟨K, cl⟩ 2 m_is_rule) :=
  fnPM F sc_is_rule rfl fun cdv A outer s H E hr tk hp => mss_cons (ms_if (mt_w (mw_or (mt_not (mt_val rfl (me_is rfl (me_var 0) z_isinstance z_tuple))) (mw_or1 (mt_cmp (op_neP hr.units) (dNe_ok rfl) (me_callB call_lenA bLen_ok z_len (by decide +kernel) (ma_cons (me_var 0) (ma_nil))) (me_int))))) (mss_one (ms_ret (me_bl))) (mss_nil))
    (mss_one (ms_ret (me_and (me_callG F_is_name_books hr (by decide) tk (ma_cons (me_ix rfl (me_var 0) (me_int)) (ma_nil))) (me_and (me_callG F_is_shape hr (by decide) tk (ma_cons (me_ix rfl (me_var 0) (me_int)) (ma_nil))) (me_one (me_callG F_is_of hr (by decide) tk (ma_cons (me_ix rfl (me_var 0) (me_int)) (ma_cons (me_var 1) (ma_nil)))))))))
theorem ok_is_rule {P : Program} {w : World} {K : PySem.W.Frag} {mg : Str → Option Value} {base : Heap} {cl : Str → Addr} (d : DefAt K mg "is_rule" (topS 34) ["thing", "tongue"]) (z_isinstance : mg "isinstance" = none) (z_tuple : mg "tuple" = none) (z_len : mg "len" = none) (F_is_name_books : FnG P w K mg base ⟨K, cl⟩ "is_name_books" 1 1 m_is_name_books) (F_is_shape : FnG P w K mg base ⟨K, cl⟩ "is_shape" 28 1 m_is_shape) (F_is_of : FnG P w K mg base ⟨K, cl⟩ "is_of" 24 2 (m_is_of 24)) : FnG P w K mg base ⟨K, cl⟩ "is_rule" 29 2 m_is_rule := d.fn fun f fd F => okf_is_rule F z_isinstance z_tuple z_len F_is_name_books F_is_shape F_is_of
/-! read_shape -/
noncomputable def m_read_shape : MF := fnM 3 (msCons (msSetT (gSets [1, 2]) (mCall 3 ((m_shape_at 24)) (mCons (mVar 0) (mCons (mC (.int 0)) (mCons (mC c_DEEPEST) (mNil))))))
    (msCons (msIf (mOr (mTb (mOp (dEq true) (mVar 2) (mB bLen (mCons (mVar 0) (mNil))))) (mNot (mTr (mCall 1 (m_is_shape) (mCons (mVar 1) (mNil)))))) (msRaise "NoShape") (msNil))
    (msRet (mVar 1))))
theorem sc_read_shape : FnScope ["text", "shape", "end"] ["text"] (defScope (topS 51)) := ⟨rfl, rfl, rfl, by decide +kernel, rfl, by decide +kernel, by decide +kernel⟩
theorem okf_read_shape {P : Program} {w : World} {K : PySem.W.Frag} {mg : Str → Option Value} {base : Heap} {cl : Str → Addr} {f : Addr} {fd : FuncData} (F : Fun K "read_shape" "read_shape" (topS 51) f fd) (z_len : mg "len" = none) (g_DEEPEST : GlC mg "DEEPEST" c_DEEPEST) (x_NoShape : ExC1 K mg "NoShape" (cl "NoShape")) (F_shape_at : FnG P w K mg base ⟨K, cl⟩ "shape_at" 27 3 (m_shape_at 24)) (F_is_shape : FnG P w K mg base ⟨K, cl⟩ "is_shape" 28 1 m_is_shape) : FnOk P w K mg base (L2.CX P w) 29 f fd ["text"] (FSp ⟨K, cl⟩ 1 m_read_shape) :=
  fnPM F sc_read_shape rfl fun cdv A outer s H E hr tk hp => mss_cons (ms_setT (me_callG F_shape_at hr (by decide) tk (ma_cons (me_var 0) (ma_cons (me_int) (ma_cons (me_globG g_DEEPEST) (ma_nil))))) (mg_tup rfl rfl (.cons (pg_name (i := 1) sc_read_shape.nd rfl (by first | exact Or.inl rfl | exact Or.inr rfl)) (.cons (pg_name (i := 2) sc_read_shape.nd rfl (by first | exact Or.inl rfl | exact Or.inr rfl)) (.nil) rfl) rfl)))
    (mss_cons (ms_if (mt_w (mw_or (mt_cmp (op_neP hr.units) (dNe_ok rfl) (me_var 2) (me_callB call_lenA bLen_ok z_len (by decide +kernel) (ma_cons (me_var 0) (ma_nil)))) (mw_or1 (mt_not (mt_val rfl (me_callG F_is_shape hr (by decide) tk (ma_cons (me_var 1) (ma_nil)))))))) (mss_one (ms_raise rfl tk x_NoShape)) (mss_nil))
    (mss_one (ms_ret (me_var 1))))
theorem ok_read_shape {P : Program} {w : World} {K : PySem.W.Frag} {mg : Str → Option Value} {base : Heap} {cl : Str → Addr} (d : DefAt K mg "read_shape" (topS 51) ["text"]) (z_len : mg "len" = none) (g_DEEPEST : GlC mg "DEEPEST" c_DEEPEST) (x_NoShape : ExC1 K mg "NoShape" (cl "NoShape")) (F_shape_at : FnG P w K mg base ⟨K, cl⟩ "shape_at" 27 3 (m_shape_at 24)) (F_is_shape : FnG P w K mg base ⟨K, cl⟩ "is_shape" 28 1 m_is_shape) : FnG P w K mg base ⟨K, cl⟩ "read_shape" 29 1 m_read_shape := d.fn fun f fd F => okf_read_shape F z_len g_DEEPEST x_NoShape F_shape_at F_is_shape
/-! is_book -/
noncomputable def b_is_book_1 : MS := msCons (msIf (mOr (mNot (mTr (mCall 2 (m_is_rule) (mCons (mVar 3) (mCons (mOp dIx (mVar 0) (mC (.int 0))) (mNil)))))) (mTb (mOp (dIn false) (mOp dIx (mVar 3) (mC (.int 0))) (mVar 2)))) (msRet (mC (.bl false))) (msNil))
    (msExpr (mMeth "list" fAppend (mVar 2) (mCons (mOp dIx (mVar 3) (mC (.int 0))) (mNil))))
noncomputable def m_is_book : MF := fnM 4 (msCons (msIf (mOr (mNot (mTr (mIs "tuple" (mVar 0)))) (mOr (mTb (mOp (dEq true) (mB bLen (mCons (mVar 0) (mNil))) (mC (.int 2)))) (mNot (mTr (mCall 1 (m_is_tongue) (mCons (mOp dIx (mVar 0) (mC (.int 0))) (mNil))))))) (msRet (mC (.bl false))) (msNil))
    (msCons (msSet 1 (mOp dIx (mVar 0) (mC (.int 1))))
    (msCons (msIf (mOr (mNot (mTr (mIs "tuple" (mVar 1)))) (mTb (mOp dGt (mB bLen (mCons (mVar 1) (mNil))) (mC c_MOST_RULES)))) (msRet (mC (.bl false))) (msNil))
    (msCons (msSet 2 (mLst (mNil)))
    (msCons (msFor (iSeq (mVar 1)) (gSet 3) b_is_book_1)
    (msRet (mC (.bl true))))))))
theorem sc_is_book : FnScope ["thing", "rules", "names", "rule"] ["thing"] (defScope (topS 35)) := ⟨rfl, rfl, rfl, by decide +kernel, rfl, by decide +kernel, by decide +kernel⟩
theorem okf_is_book {P : Program} {w : World} {K : PySem.W.Frag} {mg : Str → Option Value} {base : Heap} {cl : Str → Addr} {f : Addr} {fd : FuncData} (F : Fun K "is_book" "is_book" (topS 35) f fd) (z_isinstance : mg "isinstance" = none) (z_tuple : mg "tuple" = none) (z_len : mg "len" = none) (g_MOST_RULES : GlC mg "MOST_RULES" c_MOST_RULES) (F_is_tongue : FnG P w K mg base ⟨K, cl⟩ "is_tongue" 1 1 m_is_tongue) (F_is_rule : FnG P w K mg base ⟨K, cl⟩ "is_rule" 29 2 m_is_rule) : FnOk P w K mg base (L2.CX P w) 30 f fd ["thing"] (FSp ⟨K, cl⟩ 1 m_is_book) :=
  fnPM F sc_is_book rfl fun cdv A outer s H E hr tk hp => mss_cons (ms_if (mt_w (mw_or (mt_not (mt_val rfl (me_is rfl (me_var 0) z_isinstance z_tuple))) (mw_or (mt_cmp (op_neP hr.units) (dNe_ok rfl) (me_callB call_lenA bLen_ok z_len (by decide +kernel) (ma_cons (me_var 0) (ma_nil))) (me_int)) (mw_or1 (mt_not (mt_val rfl (me_callG F_is_tongue hr (by decide) tk (ma_cons (me_ix rfl (me_var 0) (me_int)) (ma_nil))))))))) (mss_one (ms_ret (me_bl))) (mss_nil))
    (mss_cons (ms_set 1 sc_is_book.nd (me_ix rfl (me_var 0) (me_int)))
    (mss_cons (ms_if (mt_w (mw_or (mt_not (mt_val rfl (me_is rfl (me_var 1) z_isinstance z_tuple))) (mw_or1 (mt_cmp op_gt opS_C (me_callB call_lenA bLen_ok z_len (by decide +kernel) (ma_cons (me_var 1) (ma_nil))) (me_globG g_MOST_RULES))))) (mss_one (ms_ret (me_bl))) (mss_nil))
    (mss_cons (ms_set 2 sc_is_book.nd (me_lst (ma_nil)))
    (mss_cons (ms_for rfl hp (mi_seq rfl (me_var 1)) (mg_name 3 sc_is_book.nd) (mss_cons (ms_if (mt_w (mw_or (mt_not (mt_val rfl (me_callG F_is_rule hr (by decide) tk (ma_cons (me_var 3) (ma_cons (me_ix rfl (me_var 0) (me_int)) (ma_nil)))))) (mw_or1 (mt_cmp (op_inA hr.units) (dIn_ok rfl false) (me_ix rfl (me_var 3) (me_int)) (me_var 2))))) (mss_one (ms_ret (me_bl))) (mss_nil))
    (mss_one (ms_expr (me_meth rfl PySem.F.plainAttrs_list PySem.F.slot_list_append PySem.F.type_list_append mt_append fAppend_ok (me_var 2) (ma_cons (me_ix rfl (me_var 3) (me_int)) (ma_nil)))))))
    (mss_one (ms_ret (me_bl)))))))
theorem ok_is_book {P : Program} {w : World} {K : PySem.W.Frag} {mg : Str → Option Value} {base : Heap} {cl : Str → Addr} (d : DefAt K mg "is_book" (topS 35) ["thing"]) (z_isinstance : mg "isinstance" = none) (z_tuple : mg "tuple" = none) (z_len : mg "len" = none) (g_MOST_RULES : GlC mg "MOST_RULES" c_MOST_RULES) (F_is_tongue : FnG P w K mg base ⟨K, cl⟩ "is_tongue" 1 1 m_is_tongue) (F_is_rule : FnG P w K mg base ⟨K, cl⟩ "is_rule" 29 2 m_is_rule) : FnG P w K mg base ⟨K, cl⟩ "is_book" 30 1 m_is_book := d.fn fun f fd F => okf_is_book F z_isinstance z_tuple z_len g_MOST_RULES F_is_tongue F_is_rule
/-! rule_in -/
noncomputable def b_rule_in_1 : MS := msSet 9 (mCall 1 (m_read_shape) (mCons (mVar 8) (mNil)))
noncomputable def s_rule_in_2 : Str → MS := fun c => msRet (mC .non)
noncomputable def b_rule_in_3 : MS := msIf (mTb (mOp (dIn true) (mVar 10) (mVar 1))) (msRet (mC .non)) (msNil)
noncomputable def m_rule_in : MF := fnM 11 (msCons (msSetT (gSets [3, 4, 5]) (mMeth "str" fPartition (mVar 0) (mCons (mC (.str [32])) (mNil))))
    (msCons (msSetT (gSets [6, 7, 8]) (mMeth "str" fPartition (mVar 5) (mCons (mC (.str [32])) (mNil))))
    (msCons (msIf (mOr (mTb (mOp (dEq true) (mVar 3) (mC (.str [114, 117, 108, 101])))) (mOr (mNot (mTr (mCall 1 (m_is_name_booktexts) (mCons (mVar 6) (mNil))))) (mOr (mTb (mOp (dIn false) (mVar 6) (mVar 2))) (mTb (mOp (dEq false) (mB bLen (mCons (mVar 2) (mNil))) (mC (.int 6))))))) (msRet (mC .non)) (msNil))
    (msCons (msTry hT "NoShape" b_rule_in_1 s_rule_in_2)
    (msCons (msFor (iSeq (mCall 1 (m_signs_in) (mCons (mVar 9) (mNil)))) (gSet 10) b_rule_in_3)
    (msRet (mTup (mCons (mVar 6) (mCons (mVar 9) (mNil))))))))))
theorem sc_rule_in : FnScope ["line", "tongue", "names", "word", "blank", "rest", "name", "space", "written", "shape", "sign"] ["line", "tongue", "names"] (defScope (topS 59)) := ⟨rfl, rfl, rfl, by decide +kernel, rfl, by decide +kernel, by decide +kernel⟩
theorem okf_rule_in {P : Program} {w : World} {K : PySem.W.Frag} {mg : Str → Option Value} {base : Heap} {cl : Str → Addr} {f : Addr} {fd : FuncData} (F : Fun K "rule_in" "rule_in" (topS 59) f fd) (z_len : mg "len" = none) (m_NoShape : mg "NoShape" = some (.ref (cl "NoShape"))) (F_hT : ExH K cl hT) (F_is_name_booktexts : FnG P w K mg base ⟨K, cl⟩ "is_name_booktexts" 1 1 m_is_name_booktexts) (F_read_shape : FnG P w K mg base ⟨K, cl⟩ "read_shape" 29 1 m_read_shape) (F_signs_in : FnG P w K mg base ⟨K, cl⟩ "signs_in" 26 1 m_signs_in) : FnOk P w K mg base (L2.CX P w) 30 f fd ["line", "tongue", "names"] (FSp ⟨K, cl⟩ 3 m_rule_in) :=
  fnPM F sc_rule_in rfl fun cdv A outer s H E hr tk hp => mss_cons (ms_setT (me_meth rfl PySem.F.plainAttrs_str PySem.F.slot_str_partition PySem.F.type_str_partition mt_partition fPartition_ok (me_var 0) (ma_cons (me_str [32]) (ma_nil))) (mg_tup rfl rfl (.cons (pg_name (i := 3) sc_rule_in.nd rfl (by first | exact Or.inl rfl | exact Or.inr rfl)) (.cons (pg_name (i := 4) sc_rule_in.nd rfl (by first | exact Or.inl rfl | exact Or.inr rfl)) (.cons (pg_name (i := 5) sc_rule_in.nd rfl (by first | exact Or.inl rfl | exact Or.inr rfl)) (.nil) rfl) rfl) rfl)))
    (mss_cons (ms_setT (me_meth rfl PySem.F.plainAttrs_str PySem.F.slot_str_partition PySem.F.type_str_partition mt_partition fPartition_ok (me_var 5) (ma_cons (me_str [32]) (ma_nil))) (mg_tup rfl rfl (.cons (pg_name (i := 6) sc_rule_in.nd rfl (by first | exact Or.inl rfl | exact Or.inr rfl)) (.cons (pg_name (i := 7) sc_rule_in.nd rfl (by first | exact Or.inl rfl | exact Or.inr rfl)) (.cons (pg_name (i := 8) sc_rule_in.nd rfl (by first | exact Or.inl rfl | exact Or.inr rfl)) (.nil) rfl) rfl) rfl)))
    (mss_cons (ms_if (mt_w (mw_or (mt_cmp (op_neP hr.units) (dNe_ok rfl) (me_var 3) (me_str [114, 117, 108, 101])) (mw_or (mt_not (mt_val rfl (me_callG F_is_name_booktexts hr (by decide) tk (ma_cons (me_var 6) (ma_nil))))) (mw_or (mt_cmp (op_inA hr.units) (dIn_ok rfl false) (me_var 6) (me_var 2)) (mw_or1 (mt_cmp (op_eqP hr.units) (dEq_ok rfl) (me_callB call_lenA bLen_ok z_len (by decide +kernel) (ma_cons (me_var 2) (ma_nil))) (me_int))))))) (mss_one (ms_ret (me_non))) (mss_nil))
    (mss_cons (ms_try rfl rfl F_hT m_NoShape tk (fun W pn xe tk hp => mss_one (ms_set 9 sc_rule_in.nd (me_callG F_read_shape hr (by decide) tk (ma_cons (me_var 8) (ma_nil))))) (fun c a oe pn hz hf => mss_one (ms_ret (me_non))))
    (mss_cons (ms_for rfl hp (mi_seq rfl (me_callG F_signs_in hr (by decide) tk (ma_cons (me_var 9) (ma_nil)))) (mg_name 10 sc_rule_in.nd) (mss_one (ms_if (mt_cmp (op_notInA hr.units) (dIn_ok rfl true) (me_var 10) (me_var 1)) (mss_one (ms_ret (me_non))) (mss_nil))))
    (mss_one (ms_ret (me_tup (ma_cons (me_var 6) (ma_cons (me_var 9) (ma_nil))))))))))
theorem ok_rule_in {P : Program} {w : World} {K : PySem.W.Frag} {mg : Str → Option Value} {base : Heap} {cl : Str → Addr} (d : DefAt K mg "rule_in" (topS 59) ["line", "tongue", "names"]) (z_len : mg "len" = none) (m_NoShape : mg "NoShape" = some (.ref (cl "NoShape"))) (F_hT : ExH K cl hT) (F_is_name_booktexts : FnG P w K mg base ⟨K, cl⟩ "is_name_booktexts" 1 1 m_is_name_booktexts) (F_read_shape : FnG P w K mg base ⟨K, cl⟩ "read_shape" 29 1 m_read_shape) (F_signs_in : FnG P w K mg base ⟨K, cl⟩ "signs_in" 26 1 m_signs_in) : FnG P w K mg base ⟨K, cl⟩ "rule_in" 30 3 m_rule_in := d.fn fun f fd F => okf_rule_in F z_len m_NoShape F_hT F_is_name_booktexts F_read_shape F_signs_in
/-! looked_book -/
noncomputable def e_looked_book_1 : ME := mCall 1 ((m_weight 24)) (mCons (mVar 2) (mNil))
noncomputable def m_looked_book : MF := fnM 3 (msCons (msIf (mNot (mTr (mCall 1 (m_is_book) (mCons (mVar 0) (mNil))))) (msRaise "NoBook") (msNil))
    (msCons (msIf (mTb (mOp dGt (mB bSum (mCons (mFz (mLc (iSeq (mOp dIx (mVar 0) (mC (.int 1)))) (gSets [1, 2]) mYes e_looked_book_1 [1, 2])) (mNil))) (mC c_MOST_WEIGHT))) (msRaise "TooHeavy") (msNil))
    (msRet (mVar 0))))
theorem sc_looked_book : FnScope ["thing", "name", "shape"] ["thing"] (defScope (topS 36)) := ⟨rfl, rfl, rfl, by decide +kernel, rfl, by decide +kernel, by decide +kernel⟩
theorem okf_looked_book {P : Program} {w : World} {K : PySem.W.Frag} {mg : Str → Option Value} {base : Heap} {cl : Str → Addr} {f : Addr} {fd : FuncData} (F : Fun K "looked_book" "looked_book" (topS 36) f fd) (z_sum : mg "sum" = none) (g_MOST_WEIGHT : GlC mg "MOST_WEIGHT" c_MOST_WEIGHT) (x_NoBook : ExC1 K mg "NoBook" (cl "NoBook")) (x_TooHeavy : ExC1 K mg "TooHeavy" (cl "TooHeavy")) (F_is_book : FnG P w K mg base ⟨K, cl⟩ "is_book" 30 1 m_is_book) (F_weight : FnG P w K mg base ⟨K, cl⟩ "weight" 25 1 (m_weight 24)) : FnOk P w K mg base (L2.CX P w) 31 f fd ["thing"] (FSp ⟨K, cl⟩ 1 m_looked_book) :=
  fnPM F sc_looked_book rfl fun cdv A outer s H E hr tk hp => mss_cons (ms_if (mt_not (mt_val rfl (me_callG F_is_book hr (by decide) tk (ma_cons (me_var 0) (ma_nil))))) (mss_one (ms_raise rfl tk x_NoBook)) (mss_nil))
    (mss_cons (ms_if (mt_cmp op_gt opS_C (me_callB (cr_sum rfl) bSum_ok z_sum (by decide +kernel) (ma_cons (me_fz (me_lc (own := [("name", 1), ("shape", 2)]) rfl sc_looked_book.nd (mi_seq rfl (me_ix rfl (me_var 0) (me_int))) (blkOk_by (N := ["thing", "name", "shape"]) (sc := defScope (topS 36)) (by decide +kernel)) (fun _ _ _ _ _ => mg_tup rfl rfl (.cons (pg_name (i := 1) sc_looked_book.nd rfl (by first | exact Or.inl rfl | exact Or.inr rfl)) (.cons (pg_name (i := 2) sc_looked_book.nd rfl (by first | exact Or.inl rfl | exact Or.inr rfl)) (.nil) rfl) rfl)) (fun _ _ _ _ _ => mts_nil) (fun _ _ _ _ _ => me_callG F_weight hr (by decide) takes0 (ma_cons (me_var 2) (ma_nil))))) (ma_nil))) (me_globG g_MOST_WEIGHT)) (mss_one (ms_raise rfl tk x_TooHeavy)) (mss_nil))
    (mss_one (ms_ret (me_var 0))))
theorem ok_looked_book {P : Program} {w : World} {K : PySem.W.Frag} {mg : Str → Option Value} {base : Heap} {cl : Str → Addr} (d : DefAt K mg "looked_book" (topS 36) ["thing"]) (z_sum : mg "sum" = none) (g_MOST_WEIGHT : GlC mg "MOST_WEIGHT" c_MOST_WEIGHT) (x_NoBook : ExC1 K mg "NoBook" (cl "NoBook")) (x_TooHeavy : ExC1 K mg "TooHeavy" (cl "TooHeavy")) (F_is_book : FnG P w K mg base ⟨K, cl⟩ "is_book" 30 1 m_is_book) (F_weight : FnG P w K mg base ⟨K, cl⟩ "weight" 25 1 (m_weight 24)) : FnG P w K mg base ⟨K, cl⟩ "looked_book" 31 1 m_looked_book := d.fn fun f fd F => okf_looked_book F z_sum g_MOST_WEIGHT x_NoBook x_TooHeavy F_is_book F_weight
/-! read_book -/
noncomputable def e_read_book_1 : ME := mOp dIx (mVar 8) (mC (.int 0))
noncomputable def b_read_book_2 : MS := msCons (msSet 7 (mCall 3 (m_rule_in) (mCons (mVar 6) (mCons (mVar 3) (mCons (mFz (mLc (iSeq (mVar 4)) (gSet 8) mYes e_read_book_1 [8])) (mNil))))))
    (msCons (msIf (mTb (mOp (dIsN false) (mVar 7) (mC .non))) (msNoS) (msNil))
    (msExpr (mMeth "list" fAppend (mVar 4) (mCons (mVar 7) (mNil)))))
noncomputable def m_read_book : MF := fnM 9 (msCons (msSet 1 (mMeth "str" fSplit (mVar 0) (mCons (mC (.str [10])) (mNil))))
    (msCons (msSet 2 (mMeth0 "list" fPop0 (mVar 1)))
    (msCons (msFz 1 (msSet 3 (mCall 1 (m_tongue_in) (mCons (mMeth "str" fJoin (mC (.str [])) (mCons (mFz (mSlice (mVar 1) (moNone) (moSome (mC (.int 1))))) (mNil))) (mNil)))))
    (msCons (msIf (mTb (mOp (dIsN false) (mVar 3) (mC .non))) (msNoS) (msNil))
    (msCons (msSet 4 (mLst (mNil)))
    (msCons (msFor (iEnumS 2 (mCons (mFz (mSlice (mVar 1) (moSome (mC (.int 1))) (moNone))) (mNil))) (gSets [5, 6]) b_read_book_2)
    (msCons (msIf (mTb (mOp (dEq true) (mVar 2) (mC (.str [])))) (msNoS) (msNil))
    (msRet (mCall 1 (m_looked_book) (mCons (mTup (mCons (mVar 3) (mCons (mB bTupleX (mCons (mVar 4) (mNil))) (mNil)))) (mNil)))))))))))
theorem sc_read_book : FnScope ["text", "lines", "rest", "tongue", "rules", "number", "line", "rule", "one"] ["text"] (defScope (topS 60)) := ⟨rfl, rfl, rfl, by decide +kernel, rfl, by decide +kernel, by decide +kernel⟩
theorem okf_read_book {P : Program} {w : World} {K : PySem.W.Frag} {mg : Str → Option Value} {base : Heap} {cl : Str → Addr} {f : Addr} {fd : FuncData} (F : Fun K "read_book" "read_book" (topS 60) f fd) (z_enumerate : mg "enumerate" = none) (z_tuple : mg "tuple" = none) (F_tongue_in : FnG P w K mg base ⟨K, cl⟩ "tongue_in" 4 1 m_tongue_in) (F_rule_in : FnG P w K mg base ⟨K, cl⟩ "rule_in" 30 3 m_rule_in) (F_looked_book : FnG P w K mg base ⟨K, cl⟩ "looked_book" 31 1 m_looked_book) : FnOk P w K mg base (L2.CX P w) 32 f fd ["text"] (FSp ⟨K, cl⟩ 1 m_read_book) :=
  fnPM F sc_read_book rfl fun cdv A outer s H E hr tk hp => mss_cons (ms_set 1 sc_read_book.nd (me_meth rfl PySem.F.plainAttrs_str PySem.F.slot_str_split PySem.F.type_str_split mt_split fSplit_ok (me_var 0) (ma_cons (me_str [10]) (ma_nil))))
    (mss_cons (ms_set 2 sc_read_book.nd (me_meth0 rfl PySem.F.plainAttrs_list PySem.F.slot_list_pop PySem.F.type_list_pop mt_pop fPop0_ok (me_var 1)))
    (mss_cons (ms_fz 1 (ms_set 3 sc_read_book.nd (me_callG F_tongue_in hr (by decide) tk (ma_cons (me_meth rfl PySem.F.plainAttrs_str PySem.F.slot_str_join PySem.F.type_str_join mt_join fJoin_ok (me_str []) (ma_cons (me_fz (me_slice rfl (me_var 1) (moN) (moS (me_int)))) (ma_nil))) (ma_nil)))))
    (mss_cons (ms_if (mt_cmp op_isA dIs_ok (me_var 3) (me_non)) (mss_one (ms_noS)) (mss_nil))
    (mss_cons (ms_set 4 sc_read_book.nd (me_lst (ma_nil)))
    (mss_cons (ms_for rfl hp (mi_enumS rfl (ma_cons (me_fz (me_slice rfl (me_var 1) (moS (me_int)) (moN))) (ma_nil)) z_enumerate) (mg_tup rfl rfl (.cons (pg_name (i := 5) sc_read_book.nd rfl (by first | exact Or.inl rfl | exact Or.inr rfl)) (.cons (pg_name (i := 6) sc_read_book.nd rfl (by first | exact Or.inl rfl | exact Or.inr rfl)) (.nil) rfl) rfl)) (mss_cons (ms_set 7 sc_read_book.nd (me_callG F_rule_in hr (by decide) tk (ma_cons (me_var 6) (ma_cons (me_var 3) (ma_cons (me_fz (me_lc (own := [("one", 8)]) rfl sc_read_book.nd (mi_seq rfl (me_var 4)) (blkOk_by (N := ["text", "lines", "rest", "tongue", "rules", "number", "line", "rule", "one"]) (sc := defScope (topS 60)) (by decide +kernel)) (fun _ _ _ _ _ => mg_name 8 sc_read_book.nd) (fun _ _ _ _ _ => mts_nil) (fun _ _ _ _ _ => me_ix rfl (me_var 8) (me_int)))) (ma_nil))))))
    (mss_cons (ms_if (mt_cmp op_isA dIs_ok (me_var 7) (me_non)) (mss_one (ms_noS)) (mss_nil))
    (mss_one (ms_expr (me_meth rfl PySem.F.plainAttrs_list PySem.F.slot_list_append PySem.F.type_list_append mt_append fAppend_ok (me_var 4) (ma_cons (me_var 7) (ma_nil))))))))
    (mss_cons (ms_if (mt_cmp (op_neP hr.units) (dNe_ok rfl) (me_var 2) (me_str [])) (mss_one (ms_noS)) (mss_nil))
    (mss_one (ms_ret (me_callG F_looked_book hr (by decide) tk (ma_cons (me_tup (ma_cons (me_var 3) (ma_cons (me_callT (call_tupleX rfl) bTupleX_ok z_tuple (by decide +kernel) (ma_cons (me_var 4) (ma_nil))) (ma_nil)))) (ma_nil)))))))))))
theorem ok_read_book {P : Program} {w : World} {K : PySem.W.Frag} {mg : Str → Option Value} {base : Heap} {cl : Str → Addr} (d : DefAt K mg "read_book" (topS 60) ["text"]) (z_enumerate : mg "enumerate" = none) (z_tuple : mg "tuple" = none) (F_tongue_in : FnG P w K mg base ⟨K, cl⟩ "tongue_in" 4 1 m_tongue_in) (F_rule_in : FnG P w K mg base ⟨K, cl⟩ "rule_in" 30 3 m_rule_in) (F_looked_book : FnG P w K mg base ⟨K, cl⟩ "looked_book" 31 1 m_looked_book) : FnG P w K mg base ⟨K, cl⟩ "read_book" 32 1 m_read_book := d.fn fun f fd F => okf_read_book F z_enumerate z_tuple F_tongue_in F_rule_in F_looked_book
/-! _law_right -/
noncomputable def m__law_right : MF := fnM 3 (msCons (msSet 1 (mCall 1 (m__law_book_written) (mCons (mVar 0) (mNil))))
    (msCons (msSet 2 (mCall 1 (m_book_text) (mCons (mVar 0) (mNil))))
    (msRet (mAndV (mIs "str" (mVar 2)) (mAndV (mOp (dEq false) (mVar 2) (mVar 1)) (mCall 2 ((m__law_alike 24)) (mCons (mCall 1 (m_read_book) (mCons (mVar 1) (mNil))) (mCons (mVar 0) (mNil)))))))))
theorem sc__law_right : FnScope ["_law_book_here", "_law_due", "_law_found"] ["_law_book_here"] (defScope (topS 74)) := ⟨rfl, rfl, rfl, by decide +kernel, rfl, by decide +kernel, by decide +kernel⟩
theorem okf__law_right {P : Program} {w : World} {K : PySem.W.Frag} {mg : Str → Option Value} {base : Heap} {cl : Str → Addr} {f : Addr} {fd : FuncData} (F : Fun K "_law_right" "_law_right" (topS 74) f fd) (z_isinstance : mg "isinstance" = none) (z_str : mg "str" = none) (F__law_book_written : FnG P w K mg base ⟨K, cl⟩ "_law_book_written" 26 1 m__law_book_written) (F_book_text : FnG P w K mg base ⟨K, cl⟩ "book_text" 27 1 m_book_text) (F__law_alike : FnG P w K mg base ⟨K, cl⟩ "_law_alike" 24 2 (m__law_alike 24)) (F_read_book : FnG P w K mg base ⟨K, cl⟩ "read_book" 32 1 m_read_book) : FnOk P w K mg base (L2.CX P w) 33 f fd ["_law_book_here"] (FSp ⟨K, cl⟩ 1 m__law_right) :=
  fnPM F sc__law_right rfl fun cdv A outer s H E hr tk hp => mss_cons (ms_set 1 sc__law_right.nd (me_callG F__law_book_written hr (by decide) tk (ma_cons (me_var 0) (ma_nil))))
    (mss_cons (ms_set 2 sc__law_right.nd (me_callG F_book_text hr (by decide) tk (ma_cons (me_var 0) (ma_nil))))
    (mss_one (ms_ret (me_and (me_is rfl (me_var 2) z_isinstance z_str) (me_and (me_cmp (op_eqP hr.units) (dEq_ok rfl) (me_var 2) (me_var 1)) (me_one (me_callG F__law_alike hr (by decide) tk (ma_cons (me_callG F_read_book hr (by decide) tk (ma_cons (me_var 1) (ma_nil))) (ma_cons (me_var 0) (ma_nil))))))))))
theorem ok__law_right {P : Program} {w : World} {K : PySem.W.Frag} {mg : Str → Option Value} {base : Heap} {cl : Str → Addr} (d : DefAt K mg "_law_right" (topS 74) ["_law_book_here"]) (z_isinstance : mg "isinstance" = none) (z_str : mg "str" = none) (F__law_book_written : FnG P w K mg base ⟨K, cl⟩ "_law_book_written" 26 1 m__law_book_written) (F_book_text : FnG P w K mg base ⟨K, cl⟩ "book_text" 27 1 m_book_text) (F__law_alike : FnG P w K mg base ⟨K, cl⟩ "_law_alike" 24 2 (m__law_alike 24)) (F_read_book : FnG P w K mg base ⟨K, cl⟩ "read_book" 32 1 m_read_book) : FnG P w K mg base ⟨K, cl⟩ "_law_right" 33 1 m__law_right := d.fn fun f fd F => okf__law_right F z_isinstance z_str F__law_book_written F_book_text F__law_alike F_read_book
/-! law -/
noncomputable def m_law : MF := fnM 4 (msCons (msSet 1 (mCall 1 (m__law_hand) (mCons (mVar 0) (mNil))))
    (msCons (msSet 2 (mCall 2 (m__law_book) (mCons (mVar 1) (mCons (mC (.int 10)) (mNil)))))
    (msCons (msSet 3 (mCall 2 (m__law_book) (mCons (mVar 1) (mCons (mC (.int 10)) (mNil)))))
    (msRet (mAndV (mCall 1 (m__law_right) (mCons (mVar 2) (mNil))) (mAndV (mCall 1 (m__law_right) (mCons (mVar 3) (mNil))) (mCall 1 (m__law_right) (mCons (mVar 2) (mNil)))))))))
theorem sc_law : FnScope ["_law_script", "_law_hand_here", "_law_one_here", "_law_other"] ["_law_script"] (defScope (topS 75)) := ⟨rfl, rfl, rfl, by decide +kernel, rfl, by decide +kernel, by decide +kernel⟩
theorem okf_law {P : Program} {w : World} {K : PySem.W.Frag} {mg : Str → Option Value} {base : Heap} {cl : Str → Addr} {f : Addr} {fd : FuncData} (F : Fun K "law" "law" (topS 75) f fd) (F__law_hand : FnG P w K mg base ⟨K, cl⟩ "_law_hand" 1 1 m__law_hand) (F__law_book : FnG P w K mg base ⟨K, cl⟩ "_law_book" 27 2 m__law_book) (F__law_right : FnG P w K mg base ⟨K, cl⟩ "_law_right" 33 1 m__law_right) : FnOk P w K mg base (L2.CX P w) 34 f fd ["_law_script"] (FSp ⟨K, cl⟩ 1 m_law) :=
  fnPM F sc_law rfl fun cdv A outer s H E hr tk hp => mss_cons (ms_set 1 sc_law.nd (me_callG F__law_hand hr (by decide) tk (ma_cons (me_var 0) (ma_nil))))
    (mss_cons (ms_set 2 sc_law.nd (me_callG F__law_book hr (by decide) tk (ma_cons (me_var 1) (ma_cons (me_int) (ma_nil)))))
    (mss_cons (ms_set 3 sc_law.nd (me_callG F__law_book hr (by decide) tk (ma_cons (me_var 1) (ma_cons (me_int) (ma_nil)))))
    (mss_one (ms_ret (me_and (me_callG F__law_right hr (by decide) tk (ma_cons (me_var 2) (ma_nil))) (me_and (me_callG F__law_right hr (by decide) tk (ma_cons (me_var 3) (ma_nil))) (me_one (me_callG F__law_right hr (by decide) tk (ma_cons (me_var 2) (ma_nil))))))))))
/-! the end -/
theorem all_ok {P : Program} {w : World} {K : PySem.W.Frag} {mg : Str → Option Value} {base : Heap} (cl : Str → Addr) (z_abs : mg "abs" = none) (z_all : mg "all" = none) (z_bool : mg "bool" = none) (z_enumerate : mg "enumerate" = none) (z_int : mg "int" = none) (z_isinstance : mg "isinstance" = none) (z_len : mg "len" = none) (z_list : mg "list" = none) (z_range : mg "range" = none) (z_str : mg "str" = none) (z_sum : mg "sum" = none) (z_tuple : mg "tuple" = none) (z_zip : mg "zip" = none) (g_DEEPEST : GlC mg "DEEPEST" c_DEEPEST) (g_FIGURES : GlC mg "FIGURES" c_FIGURES) (g_LETTERS_books : GlC mg "LETTERS_books" c_LETTERS_books) (g_LETTERS_booktexts : GlC mg "LETTERS_booktexts" c_LETTERS_booktexts) (g_MOST_IN : GlC mg "MOST_IN" c_MOST_IN) (g_MOST_LETTERS : GlC mg "MOST_LETTERS" c_MOST_LETTERS) (g_MOST_PARTS : GlC mg "MOST_PARTS" c_MOST_PARTS) (g_MOST_RULES : GlC mg "MOST_RULES" c_MOST_RULES) (g_MOST_SIGNS : GlC mg "MOST_SIGNS" c_MOST_SIGNS) (g_MOST_TIMES : GlC mg "MOST_TIMES" c_MOST_TIMES) (g_MOST_WEIGHT : GlC mg "MOST_WEIGHT" c_MOST_WEIGHT) (g_SIGNS : GlC mg "SIGNS" c_SIGNS) (x_NoBook : ExC1 K mg "NoBook" (cl "NoBook")) (x_NoQuote : ExC1 K mg "NoQuote" (cl "NoQuote")) (x_NoShape : ExC1 K mg "NoShape" (cl "NoShape")) (x_TooHeavy : ExC1 K mg "TooHeavy" (cl "TooHeavy")) (m_NoQuote : mg "NoQuote" = some (.ref (cl "NoQuote"))) (m_NoShape : mg "NoShape" = some (.ref (cl "NoShape"))) (F_hT : ExH K cl hT) (d_is_number : DefAt K mg "is_number" (topS 1) ["thing"]) (d_is_tongue : DefAt K mg "is_tongue" (topS 12) ["thing"]) (d_are_some : DefAt K mg "are_some" (topS 18) ["thing", "least"]) (d_inner : DefAt K mg "inner" (topS 21) ["shape"]) (d_is_name_books : DefAtN K mg "is_name_books" "is_name" (topS 31) ["thing"]) (d_sign_written : DefAt K mg "sign_written" (topS 38) ["sign"]) (d_sign_behind : DefAt K mg "sign_behind" (topS 40) ["sign"]) (d_figure_at : DefAt K mg "figure_at" (topS 48) ["text", "at"]) (d_is_name_booktexts : DefAtN K mg "is_name_booktexts" "is_name" (topS 56) ["text"]) (d__law_hand : DefAt K mg "_law_hand" (topS 62) ["_law_script"]) (d__law_take : DefAt K mg "_law_take" (topS 63) ["_law_hand_here", "_law_many"]) (d__law_signs : DefAt K mg "_law_signs" (topS 64) []) (d__law_quote : DefAt K mg "_law_quote" (topS 70) ["_law_text"]) (d_are_times : DefAt K mg "are_times" (topS 19) ["low", "high"]) (d_quoted : DefAt K mg "quoted" (topS 39) ["text"]) (d_quote_at : DefAt K mg "quote_at" (topS 41) ["text", "at"]) (d__law_tongue : DefAt K mg "_law_tongue" (topS 65) ["_law_hand_here"]) (d__law_one : DefAt K mg "_law_one" (topS 66) ["_law_hand_here", "_law_tongue_here"]) (d__law_name : DefAt K mg "_law_name" (topS 68) ["_law_hand_here", "_law_names"]) (d_is_form : DefAt K mg "is_form" (topS 20) ["thing"]) (d_unquoted : DefAt K mg "unquoted" (topS 42) ["text"]) (d_one_at : DefAt K mg "one_at" (topS 46) ["text", "at"]) (d_tongue_in : DefAt K mg "tongue_in" (topS 55) ["line"]) (d_is_of : DefAt K mg "is_of" (topS 33) ["shape", "tongue"]) (d__law_alike : DefAt K mg "_law_alike" (topS 72) ["_law_one_here", "_law_other"]) (d_weight : DefAt K mg "weight" (topS 24) ["shape"]) (d_parts_of : DefAt K mg "parts_of" (topS 25) ["shape"]) (d__law_written : DefAt K mg "_law_written" (topS 71) ["_law_shape_here"]) (d_shape_text : DefAt K mg "shape_text" (topS 45) ["shape"]) (d_signs_in : DefAt K mg "signs_in" (topS 58) ["shape"]) (d__law_shape : DefAt K mg "_law_shape" (topS 67) ["_law_hand_here", "_law_tongue_here", "_law_purse", "_law_factor", "_law_deep"]) (d__law_book_written : DefAt K mg "_law_book_written" (topS 73) ["_law_book_here"]) (d_counted : DefAt K mg "counted" (topS 22) ["thing", "deep"]) (d_parts_at : DefAt K mg "parts_at" (topS 47) ["text", "at", "close", "deep"]) (d_times_at : DefAt K mg "times_at" (topS 49) ["text", "at", "deep"]) (d_shape_at : DefAt K mg "shape_at" (topS 50) ["text", "at", "deep"]) (d_book_text : DefAt K mg "book_text" (topS 54) ["book"]) (d__law_book : DefAt K mg "_law_book" (topS 69) ["_law_hand_here", "_law_heavy"]) (d_is_shape : DefAt K mg "is_shape" (topS 23) ["thing"]) (d_is_rule : DefAt K mg "is_rule" (topS 34) ["thing", "tongue"]) (d_read_shape : DefAt K mg "read_shape" (topS 51) ["text"]) (d_is_book : DefAt K mg "is_book" (topS 35) ["thing"]) (d_rule_in : DefAt K mg "rule_in" (topS 59) ["line", "tongue", "names"]) (d_looked_book : DefAt K mg "looked_book" (topS 36) ["thing"]) (d_read_book : DefAt K mg "read_book" (topS 60) ["text"]) (d__law_right : DefAt K mg "_law_right" (topS 74) ["_law_book_here"]) {f : Addr} {fd : FuncData} (F : Fun K "law" "law" (topS 75) f fd) : FnOk P w K mg base (L2.CX P w) 34 f fd ["_law_script"] (FSp ⟨K, cl⟩ 1 m_law) := by
  have F_is_number : FnG P w K mg base ⟨K, cl⟩ "is_number" 1 1 m_is_number := ok_is_number d_is_number z_isinstance z_int z_bool
  have F_is_tongue : FnG P w K mg base ⟨K, cl⟩ "is_tongue" 1 1 m_is_tongue := ok_is_tongue d_is_tongue z_isinstance z_str z_len g_MOST_SIGNS g_SIGNS
  have F_are_some : FnG P w K mg base ⟨K, cl⟩ "are_some" 1 2 m_are_some := ok_are_some d_are_some z_isinstance z_tuple z_len g_MOST_IN
  have F_inner : FnG P w K mg base ⟨K, cl⟩ "inner" 1 1 m_inner := ok_inner d_inner
  have F_is_name_books : FnG P w K mg base ⟨K, cl⟩ "is_name_books" 1 1 m_is_name_books := ok_is_name_books d_is_name_books z_isinstance z_str z_len g_MOST_LETTERS g_LETTERS_books
  have F_sign_written : FnG P w K mg base ⟨K, cl⟩ "sign_written" 1 1 m_sign_written := ok_sign_written d_sign_written
  have F_sign_behind : FnG P w K mg base ⟨K, cl⟩ "sign_behind" 1 1 m_sign_behind := ok_sign_behind d_sign_behind x_NoQuote
  have F_figure_at : FnG P w K mg base ⟨K, cl⟩ "figure_at" 1 2 m_figure_at := ok_figure_at d_figure_at g_FIGURES x_NoShape
  have F_is_name_booktexts : FnG P w K mg base ⟨K, cl⟩ "is_name_booktexts" 1 1 m_is_name_booktexts := ok_is_name_booktexts d_is_name_booktexts z_len z_all g_LETTERS_booktexts
  have F__law_hand : FnG P w K mg base ⟨K, cl⟩ "_law_hand" 1 1 m__law_hand := ok__law_hand d__law_hand z_list
  have F__law_take : FnG P w K mg base ⟨K, cl⟩ "_law_take" 1 2 m__law_take := ok__law_take d__law_take z_len z_abs
  have F__law_signs : FnG P w K mg base ⟨K, cl⟩ "_law_signs" 1 0 m__law_signs := ok__law_signs d__law_signs
  have F__law_quote : FnG P w K mg base ⟨K, cl⟩ "_law_quote" 1 1 m__law_quote := ok__law_quote d__law_quote
  have F_are_times : FnG P w K mg base ⟨K, cl⟩ "are_times" 2 2 m_are_times := ok_are_times d_are_times g_MOST_TIMES F_is_number
  have F_quoted : FnG P w K mg base ⟨K, cl⟩ "quoted" 2 1 m_quoted := ok_quoted d_quoted F_sign_written
  have F_quote_at : FnG P w K mg base ⟨K, cl⟩ "quote_at" 2 2 m_quote_at := ok_quote_at d_quote_at z_len x_NoQuote F_sign_behind
  have F__law_tongue : FnG P w K mg base ⟨K, cl⟩ "_law_tongue" 2 1 m__law_tongue := ok__law_tongue d__law_tongue z_range z_len F__law_signs F__law_take
  have F__law_one : FnG P w K mg base ⟨K, cl⟩ "_law_one" 2 2 m__law_one := ok__law_one d__law_one z_len z_range F__law_take
  have F__law_name : FnG P w K mg base ⟨K, cl⟩ "_law_name" 2 2 m__law_name := ok__law_name d__law_name z_range F__law_take
  have F_is_form : FnG P w K mg base ⟨K, cl⟩ "is_form" 3 1 m_is_form := ok_is_form d_is_form z_isinstance z_tuple z_len z_str F_are_times F_is_tongue F_are_some
  have F_unquoted : FnG P w K mg base ⟨K, cl⟩ "unquoted" 3 1 m_unquoted := ok_unquoted d_unquoted z_len x_NoQuote F_quote_at
  have F_one_at : FnG P w K mg base ⟨K, cl⟩ "one_at" 3 2 m_one_at := ok_one_at d_one_at m_NoQuote F_hT F_quote_at
  have F_tongue_in : FnG P w K mg base ⟨K, cl⟩ "tongue_in" 4 1 m_tongue_in := ok_tongue_in d_tongue_in m_NoQuote F_hT F_unquoted F_is_tongue
  have F_is_of : FnG P w K mg base ⟨K, cl⟩ "is_of" 24 2 (m_is_of 24) := (ok_scc_is_of d_is_of 24)
  have F__law_alike : FnG P w K mg base ⟨K, cl⟩ "_law_alike" 24 2 (m__law_alike 24) := (ok_scc__law_alike d__law_alike z_isinstance z_tuple z_len z_zip z_all z_str z_bool z_int 24)
  have F_weight : FnG P w K mg base ⟨K, cl⟩ "weight" 25 1 (m_weight 24) := (ok_scc_weight d_weight z_sum F_inner 24)
  have F_parts_of : FnG P w K mg base ⟨K, cl⟩ "parts_of" 25 1 (m_parts_of 24) := (ok_scc_parts_of d_parts_of z_tuple F_inner 24)
  have F__law_written : FnG P w K mg base ⟨K, cl⟩ "_law_written" 25 1 (m__law_written 24) := (ok_scc__law_written d__law_written F__law_quote 24)
  have F_shape_text : FnG P w K mg base ⟨K, cl⟩ "shape_text" 26 1 (m_shape_text 24) := (ok_scc_shape_text d_shape_text z_str F_quoted 24)
  have F_signs_in : FnG P w K mg base ⟨K, cl⟩ "signs_in" 26 1 m_signs_in := ok_signs_in d_signs_in F_parts_of
  have F__law_shape : FnG P w K mg base ⟨K, cl⟩ "_law_shape" 26 5 (m__law_shape 24) := (ok_scc__law_shape d__law_shape z_range z_tuple F__law_take F__law_one 24)
  have F__law_book_written : FnG P w K mg base ⟨K, cl⟩ "_law_book_written" 26 1 m__law_book_written := ok__law_book_written d__law_book_written F__law_quote F__law_written
  have F_counted : FnG P w K mg base ⟨K, cl⟩ "counted" 27 2 (m_counted 24) := (ok_scc_counted d_counted F_is_form F_inner 24)
  have F_parts_at : FnG P w K mg base ⟨K, cl⟩ "parts_at" 27 4 (m_parts_at 24) := (ok_scc_parts_at d_parts_at d_times_at d_shape_at z_tuple x_NoShape F_figure_at F_one_at 24).1
  have F_times_at : FnG P w K mg base ⟨K, cl⟩ "times_at" 27 3 (m_times_at 24) := (ok_scc_parts_at d_parts_at d_times_at d_shape_at z_tuple x_NoShape F_figure_at F_one_at 24).2.1
  have F_shape_at : FnG P w K mg base ⟨K, cl⟩ "shape_at" 27 3 (m_shape_at 24) := (ok_scc_parts_at d_parts_at d_times_at d_shape_at z_tuple x_NoShape F_figure_at F_one_at 24).2.2
  have F_book_text : FnG P w K mg base ⟨K, cl⟩ "book_text" 27 1 m_book_text := ok_book_text d_book_text F_quoted F_shape_text
  have F__law_book : FnG P w K mg base ⟨K, cl⟩ "_law_book" 27 2 m__law_book := ok__law_book d__law_book z_range z_tuple F__law_tongue F__law_take F__law_name F__law_shape
  have F_is_shape : FnG P w K mg base ⟨K, cl⟩ "is_shape" 28 1 m_is_shape := ok_is_shape d_is_shape g_DEEPEST g_MOST_PARTS F_counted
  have F_is_rule : FnG P w K mg base ⟨K, cl⟩ "is_rule" 29 2 m_is_rule := ok_is_rule d_is_rule z_isinstance z_tuple z_len F_is_name_books F_is_shape F_is_of
  have F_read_shape : FnG P w K mg base ⟨K, cl⟩ "read_shape" 29 1 m_read_shape := ok_read_shape d_read_shape z_len g_DEEPEST x_NoShape F_shape_at F_is_shape
  have F_is_book : FnG P w K mg base ⟨K, cl⟩ "is_book" 30 1 m_is_book := ok_is_book d_is_book z_isinstance z_tuple z_len g_MOST_RULES F_is_tongue F_is_rule
  have F_rule_in : FnG P w K mg base ⟨K, cl⟩ "rule_in" 30 3 m_rule_in := ok_rule_in d_rule_in z_len m_NoShape F_hT F_is_name_booktexts F_read_shape F_signs_in
  have F_looked_book : FnG P w K mg base ⟨K, cl⟩ "looked_book" 31 1 m_looked_book := ok_looked_book d_looked_book z_sum g_MOST_WEIGHT x_NoBook x_TooHeavy F_is_book F_weight
  have F_read_book : FnG P w K mg base ⟨K, cl⟩ "read_book" 32 1 m_read_book := ok_read_book d_read_book z_enumerate z_tuple F_tongue_in F_rule_in F_looked_book
  have F__law_right : FnG P w K mg base ⟨K, cl⟩ "_law_right" 33 1 m__law_right := ok__law_right d__law_right z_isinstance z_str F__law_book_written F_book_text F__law_alike F_read_book
  exact okf_law F F__law_hand F__law_book F__law_right
end NR

set_option Elab.async false
set_option linter.all false
set_option maxRecDepth 100000
set_option maxHeartbeats 1000000
/-! What the functions come to: equations for simp. -/
namespace NR
open PySem PySem.Spec PyProof.Rows L2
@[simp] theorem get_zero {A : Type} {a : A} {l : List A} : (a :: l)[0]? = some a := (rfl)
section
variable {A B : Type} {env : EV} {h h' : IH} {i j : Nat} {d x y : D} {a b c m mo mi me : ME} {t u : MT} {ta : MA} {s s1 s2 : MS} {f g : D → D → IH → R D}
@[simp] theorem bind_ok {a : A} {k : A → IH → R B} : (R.ok a h).bind k = k a h := (rfl)
@[simp] theorem bind_ex {c : Str} {d : XF} {k : A → IH → R B} : (R.ex c d h : R A).bind k = .ex c d h := (rfl)
@[simp] theorem bind_no {k : A → IH → R B} : (R.no : R A).bind k = .no := (rfl)
@[simp] theorem bindS_ok {a : A} {k : A → IH → RS} : (R.ok a h).bindS env k = k a h := (rfl)
@[simp] theorem bindS_ex {c : Str} {d : XF} {k : A → IH → RS} : (R.ex c d h : R A).bindS env k = .ex c d env h := (rfl)
@[simp] theorem bindS_no {k : A → IH → RS} : (R.no : R A).bindS env k = .no := (rfl)
@[simp] theorem then_nx {k : EV → IH → RS} : (RS.nx env h).then k = k env h := (rfl)
@[simp] theorem then_rt {k : EV → IH → RS} : (RS.rt d h).then k = .rt d h := (rfl)
@[simp] theorem then_bk {k : EV → IH → RS} : (RS.bk env h).then k = .bk env h := (rfl)
@[simp] theorem then_ct {k : EV → IH → RS} : (RS.ct env h).then k = .ct env h := (rfl)
@[simp] theorem then_ex {c : Str} {d : XF} {k : EV → IH → RS} : (RS.ex c d env h).then k = .ex c d env h := (rfl)
@[simp] theorem then_no {k : EV → IH → RS} : RS.no.then k = .no := (rfl)
@[simp] theorem fin_nx : (RS.nx env h).fin = .ok .non h := (rfl)
@[simp] theorem fin_rt : (RS.rt d h).fin = .ok d h := (rfl)
@[simp] theorem fin_ex {c : Str} {d : XF} : (RS.ex c d env h).fin = .ex c d h := (rfl)
@[simp] theorem ofO_some {a : A} : R.ofO (some a) h = .ok a h := (rfl)
/-- a new list -/
def newL (h : IH) (xs : List D) : R D := .ok (.ref h.length) (h ++ [.lst xs])
theorem newL_bind {xs : List D} {k : D → IH → R B} : (newL h xs).bind k = k (.ref h.length) (h ++ [.lst xs]) := rfl
theorem newL_bindS {xs : List D} {k : D → IH → RS} : (newL h xs).bindS env k = k (.ref h.length) (h ++ [.lst xs]) := rfl
@[simp] theorem ap_mVar : mVar i env h = match env[i]? with | some (some d) => .ok d h | _ => .no := rfl
@[simp] theorem ap_mC : mC d env h = .ok d h := rfl
@[simp] theorem ap_mOp : mOp f a b env h = (a env h).bind fun x h1 => (b env h1).bind fun y h2 => f x y h2 := rfl
@[simp] theorem ap_mTr : mTr m env h = (m env h).bind fun d h1 => R.ofO (truD h1 d) h1 := rfl
@[simp] theorem ap_mTb : mTb m env h = (m env h).bind fun d h1 => R.ofO d.bl? h1 := rfl
@[simp] theorem ap_mAnd : mAnd t u env h = (t env h).bind fun c h1 => if c = true then u env h1 else .ok false h1 := rfl
@[simp] theorem ap_mOr : mOr t u env h = (t env h).bind fun c h1 => if c = true then .ok true h1 else u env h1 := rfl
@[simp] theorem ap_mNot : mNot t env h = (t env h).bind fun c h1 => .ok (!c) h1 := rfl
@[simp] theorem ap_mIf : mIf t a b env h = (t env h).bind fun c h1 => if c = true then a env h1 else b env h1 := rfl
@[simp] theorem ap_mNil : mNil env h = .ok [] h := rfl
@[simp] theorem ap_mCons : mCons a ta env h = (a env h).bind fun x h1 => (ta env h1).bind fun xs h2 => .ok (x :: xs) h2 := rfl
@[simp] theorem ap_mTup : mTup ta env h = (ta env h).bind fun xs h1 => if xs.length ≤ 10000000 then .ok (.tup xs) h1 else .no := rfl
@[simp] theorem ap_mLst : mLst ta env h = (ta env h).bind fun xs h1 => if xs.length ≤ 10000000 then newL h1 xs else .no := rfl
@[simp] theorem ap_mCall {n : Nat} {fm : MF} : mCall n fm ta env h = (ta env h).bind fun ds h1 => callC n fm ds h1 := rfl
@[simp] theorem ap_mB {fb : List D → IH → R D} : mB fb ta env h = (ta env h).bind fun xs h1 => fb xs h1 := rfl
@[simp] theorem ap_mMeth {T : String} {fb : D → List D → IH → R D} : mMeth T fb mo ta env h = (mo env h).bind fun x h1 => if tyD T h1 x = true then (ta env h1).bind fun xs h2 => fb x xs h2 else .no := rfl
@[simp] theorem ap_mNeg : mNeg a env h = (a env h).bind fun x h1 => match x with | .int i => .ok (.int (-i)) h1 | _ => .no := rfl
@[simp] theorem ap_mAndV : mAndV a b env h = (a env h).bind fun x h1 => match x with | .bl true => b env h1 | .bl false => .ok (.bl false) h1 | _ => .no := rfl
@[simp] theorem ap_mOrV : mOrV a b env h = (a env h).bind fun x h1 => match x with | .bl true => .ok (.bl true) h1 | .bl false => b env h1 | _ => .no := rfl
@[simp] theorem ap_mNotV : mNotV a env h = (a env h).bind fun x h1 => match x with | .bl b => .ok (.bl (!b)) h1 | _ => .no := rfl
@[simp] theorem ap_mChain : mChain f g a b c env h = (a env h).bind fun x h1 => (b env h1).bind fun y h2 => (f x y h2).bind fun z h3 => match z with
  | .bl true => (c env h3).bind fun w h4 => g y w h4
  | .bl false => .ok (.bl false) h3
  | _ => .no := rfl
@[simp] theorem ap_mSlice {l u : MO} : mSlice m l u env h = (m env h).bind fun x h1 => (l env h1).bind fun l h2 => (u env h2).bind fun u h3 => sliceD x l u h3 := rfl
@[simp] theorem ap_moNone : moNone env h = .ok none h := rfl
@[simp] theorem ap_moSome : moSome m env h = (m env h).bind fun d h1 => match d with | .int i => .ok (some i) h1 | _ => .no := rfl
@[simp] theorem ap_mIs {T : String} : mIs T m env h = (m env h).bind fun x h1 => match isT T h1 x with | some b => .ok (.bl b) h1 | none => .no := rfl
@[simp] theorem ap_msNil : msNil env h = .nx env h := rfl
@[simp] theorem ap_msCons : msCons s1 s2 env h = (s1 env h).then s2 := rfl
@[simp] theorem ap_msRet : msRet m env h = (m env h).bindS env fun d h1 => .rt d h1 := rfl
@[simp] theorem ap_msIf : msIf t s1 s2 env h = (t env h).bindS env fun c h1 => if c = true then s1 env h1 else s2 env h1 := rfl
@[simp] theorem ap_msSet : msSet i m env h = (m env h).bindS env fun d h1 => .nx (env.set i (some d)) h1 := rfl
@[simp] theorem ap_msSetT {gg : MG} : msSetT gg m env h = (m env h).bindS env fun d h1 => match gg d env with | some e => .nx e h1 | none => .no := rfl
@[simp] theorem ap_msExpr : msExpr m env h = (m env h).bindS env fun _ h1 => .nx env h1 := rfl
@[simp] theorem ap_msAug : msAug i f m env h = match env[i]? with
  | some (some x) => (m env h).bindS env fun y h1 => (f x y h1).bindS env fun z h2 => .nx (env.set i (some z)) h2
  | _ => .no := rfl
@[simp] theorem ap_msSetI : msSetI mo mi me env h = (me env h).bindS env fun v h1 => (mo env h1).bindS env fun o h2 => (mi env h2).bindS env fun i h3 => match putD o i v h3 with
  | some h4 => .nx env h4
  | none => .no := rfl
@[simp] theorem ap_msAugI : msAugI f mo mi me env h = (mo env h).bindS env fun o h1 => (mi env h1).bindS env fun i h2 => match getL o i h2 with
  | none => .no
  | some x => (me env h2).bindS env fun y h3 => (f x y h3).bindS env fun z h4 => match putD o i z h4 with
    | some h5 => .nx env h5
    | none => .no := rfl
@[simp] theorem ap_msFor {it : MI} {gg : MG} : msFor it gg s env h = (it env h).bindS env fun src h1 => forM src gg s (src.many h1 + 1) 0 env h1 := rfl
@[simp] theorem ap_mLc {it : MI} {gg : MG} {ws : List Nat} : mLc it gg t m ws env h = (it env h).bind fun src h1 => lcM src gg t m h1.length (src.many h1 + 1) 0 (wipeE env ws) (h1 ++ [.lst []]) := rfl
@[simp] theorem ap_iSeq : iSeq m env h = (m env h).bind fun x h1 => match x with
  | .ref n => if (lstOf h1 (.ref n)).isSome then .ok (.ls n) h1 else .no
  | .tup l => .ok (.st l) h1
  | .fl l => .ok (.st l) h1
  | .str s => if s.length ≤ 10000000 then .ok (.st (s.map fun c => .str [c])) h1 else .no
  | _ => .no := rfl
@[simp] theorem ap_iRange1 : iRange1 ta env h = (ta env h).bind fun xs h1 => match xs with
  | [.int j] => if -10000000 ≤ j ∧ j ≤ 10000000 then .ok (.st (intsFrom 0 j.toNat)) h1 else .no
  | _ => .no := rfl
@[simp] theorem ap_iRange2 : iRange2 ta env h = (ta env h).bind fun xs h1 => match xs with
  | [.int i, .int j] => if -10000000 ≤ i ∧ i ≤ 10000000 ∧ -10000000 ≤ j ∧ j ≤ 10000000 then .ok (.st (intsFrom i (j - i).toNat)) h1 else .no
  | _ => .no := rfl
@[simp] theorem ap_fnM {n : Nat} {ds : List D} : fnM n s ds h = (s (ds.map some ++ List.replicate (n - ds.length) none) h).fin := rfl
theorem strV_eq (a b : List Nat) : (strV a == strV b) = decide (a = b) := by
  by_cases e : a = b
  · subst e; simp
  · rw [decide_eq_false e]
    exact beq_eq_false_iff_ne.mpr fun z => e (strV_inj z)
@[simp] theorem dEq_str {neg : Bool} {a b : List Nat} : dEq neg (.str a) (.str b) h = .ok (.bl (if neg then !decide (a = b) else decide (a = b))) h := by
  show R.ok (D.bl (if neg then !PyData.eqv (.str (strV a)) (.str (strV b)) else PyData.eqv (.str (strV a)) (.str (strV b)))) h = _
  rw [show PyData.eqv (.str (strV a)) (.str (strV b)) = (strV a == strV b) by simp [PyData.eqv], strV_eq]
@[simp] theorem dEq_int {neg : Bool} {a b : Int} : dEq neg (.int a) (.int b) h = .ok (.bl (if neg then !decide (a = b) else decide (a = b))) h := by
  show R.ok (D.bl (if neg then !PyData.eqv (.int a) (.int b) else PyData.eqv (.int a) (.int b))) h = _
  rw [show PyData.eqv (.int a) (.int b) = (a == b) by simp [PyData.eqv], Bool.beq_eq_decide_eq]
@[simp] theorem dIn_sign {neg : Bool} {c : Nat} {z : List Nat} : dIn neg (.str [c]) (.str z) h = .ok (.bl (if neg then !decide (c ∈ z) else decide (c ∈ z))) h := rfl
theorem allM_pyStrs {k : Nat} (zs : List (List Nat)) : allM (D.py h (k + 1)) (zs.map D.str) = some (zs.map fun z => PyData.str (strV z)) := by
  induction zs with
  | nil => rfl
  | cons z zs ih =>
    rw [List.map_cons, List.map_cons]
    unfold allM
    rw [ih]
    rfl
theorem dIn_strs {neg : Bool} {a : List Nat} {zs : List (List Nat)} : dIn neg (.str a) (.tup (zs.map D.str)) h = .ok (.bl (if neg then !decide (a ∈ zs) else decide (a ∈ zs))) h := by
  have e : (zs.map fun z => PyData.str (strV z)).any (fun z => PyData.eqv z (.str (strV a))) = decide (a ∈ zs) := by
    induction zs with
    | nil => rfl
    | cons z zs ih =>
      simp only [List.map_cons, List.any_cons, ih, PyData.eqv, strV_eq, List.mem_cons, Bool.decide_or]
      rw [show decide (z = a) = decide (a = z) from decide_eq_decide.mpr eq_comm]
  unfold dIn
  split
  · rename_i h1 h2; cases h2
  · rw [show D.py h 50 (.str a) = some (.str (strV a)) from rfl, show (seqOf h (.tup (zs.map D.str))).bind (allM (D.py h 49)) = allM (D.py h (48 + 1)) (zs.map D.str) from rfl, allM_pyStrs]
    dsimp only
    rw [e]
@[simp] theorem dAdd_int {i j : Int} : dAdd (.int i) (.int j) h = .ok (.int (i + j)) h := rfl
@[simp] theorem dSub_int {i j : Int} : dSub (.int i) (.int j) h = .ok (.int (i - j)) h := rfl
theorem dAdd_str_if {a b : List Nat} : dAdd (.str a) (.str b) h = if a.length + b.length ≤ 10000000 then .ok (.str (a ++ b)) h else .no := rfl
@[simp] theorem dMul_int {i j : Int} : dMul (.int i) (.int j) h = if cMul i j then .ok (.int (i * j)) h else .no := rfl
@[simp] theorem dI_int {C : Int → Int → Bool} {k : Int → Int → Int} {i j : Int} : dI C k (.int i) (.int j) h = if C i j then .ok (.int (k i j)) h else .no := rfl
@[simp] theorem dC_int {k : Int → Int → Bool} {i j : Int} : dC k (.int i) (.int j) h = .ok (.bl (k i j)) h := rfl
@[simp] theorem bl?_bl {b : Bool} : (D.bl b).bl? = some b := rfl
@[simp] theorem truD_bl {b : Bool} : truD h (.bl b) = some b := rfl
theorem okB_self {k : Nat} : ∀ {h g : IH}, okB k h (h ++ g)
  | [], _ => True.intro
  | _ :: h, g => ⟨.inl rfl, okB_self (h := h)⟩
@[simp] theorem okB_app {k : Nat} {h g : IH} : okB k h (h ++ g) ↔ True := iff_true_intro okB_self
@[simp] theorem okB_refl {k : Nat} {h : IH} : okB k h h ↔ True := iff_true_intro (by simpa using okB_self (k := k) (h := h) (g := []))
@[simp] theorem okB_nil {k : Nat} {h : IH} : okB k [] h ↔ True := Iff.rfl
@[simp] theorem okB_cons {k : Nat} {c c' : Cell} {cs cs' : IH} : okB k (c :: cs) (c' :: cs') ↔ (c' = c ∨ Cell.lo k c' = true) ∧ okB k cs cs' := Iff.rfl
/-- a call of a def that changes nothing and tells a value without cells of its own -/
theorem callC_pure {n : Nat} {fm : MF} {ds : List D} {d : D} {g : IH} (hn : ds.length = n) (e : fm ds h = .ok d (h ++ g)) (hd : d.lo h.length = true) : callC n fm ds h = .ok d h := by
  unfold callC
  rw [if_pos hn, e]
  unfold clean
  simp [hd]
theorem callC_same {n : Nat} {fm : MF} {ds : List D} {d : D} (hn : ds.length = n) (e : fm ds h = .ok d h) : callC n fm ds h = .ok d h := by
  unfold callC
  rw [if_pos hn, e]
  unfold clean
  simp
theorem callC_ex {n : Nat} {fm : MF} {ds : List D} {c : Str} {g : IH} (hn : ds.length = n) (e : fm ds h = .ex c none (h ++ g)) : callC n fm ds h = .ex c none h := by
  unfold callC
  rw [if_pos hn, e]
  unfold clean
  simp [xfLo]
theorem callC_len {n : Nat} {fm : MF} {ds : List D} {d : D} (hn : ds.length = n) (e : fm ds h = .ok d h') (hl : h'.length = h.length) : callC n fm ds h = .ok d h' := by
  unfold callC
  rw [if_pos hn, e]
  unfold clean
  dsimp only
  rw [← hl, List.take_length]
  split <;> rfl
/-- a call that leaves h' of the old cells, and more behind them -/
theorem callC_cut {n : Nat} {fm : MF} {ds : List D} {d : D} {g : IH} (hn : ds.length = n) (e : fm ds h = .ok d (h' ++ g)) (hl : h'.length = h.length) (hd : d.lo h.length = true) (hw : okB h.length h (h' ++ g)) : callC n fm ds h = .ok d h' := by
  unfold callC
  rw [if_pos hn, e]
  unfold clean
  dsimp only
  rw [if_pos ⟨hd, hw⟩, ← hl, List.take_left]
/-- a call that draws: the pen's cell stands at 1 -/
theorem callC_pen {n : Nat} {fm : MF} {ds : List D} {d : D} {z c c' : Cell} {g g' : IH} (hn : ds.length = n) (e : fm ds (z :: c :: g) = .ok d (z :: c' :: (g ++ g'))) (hd : ∀ k, 2 ≤ k → d.lo k = true) (hc : ∀ k, 2 ≤ k → Cell.lo k c' = true) : callC n fm ds (z :: c :: g) = .ok d (z :: c' :: g) :=
  callC_cut (h := z :: c :: g) (h' := z :: c' :: g) (g := g') hn (by simpa using e) rfl (hd _ (by simp)) (by simp [hc])
theorem callC_pen0 {n : Nat} {fm : MF} {ds : List D} {d : D} {z c c' : Cell} {g : IH} (hn : ds.length = n) (e : fm ds (z :: c :: g) = .ok d (z :: c' :: g)) : callC n fm ds (z :: c :: g) = .ok d (z :: c' :: g) := callC_len hn e rfl
/-- a call whose value is a cell of its own -/
theorem callC_new {n : Nat} {fm : MF} {ds : List D} {k : Nat} (hn : ds.length = n) (e : fm ds h = .ok (.ref k) h') (hk : h.length ≤ k) : callC n fm ds h = .ok (.ref k) h' := by
  unfold callC
  rw [if_pos hn, e]
  unfold clean
  dsimp only
  rw [if_neg]
  rintro ⟨h2, _⟩
  simp [D.lo] at h2
  omega
/-- a call whose value tells of cells of its own -/
theorem callC_tup {n : Nat} {fm : MF} {ds : List D} {d : D} (hn : ds.length = n) (e : fm ds h = .ok d h') (hd : d.lo h.length = false) : callC n fm ds h = .ok d h' := by
  unfold callC
  rw [if_pos hn, e]
  unfold clean
  dsimp only
  rw [if_neg]
  rintro ⟨h2, _⟩
  rw [hd] at h2
  cases h2
/-- a for over what stands still -/
theorem forM_inv {ds : List D} {gg : MG} (P : Nat → EV → IH → Prop) (Rs : RS → Prop)
    (step : ∀ i d env h, ds[i]? = some d → P i env h → ∃ e1, gg d env = some e1 ∧ (match s e1 h with
      | .nx e2 h2 => P (i + 1) e2 h2
      | .ct e2 h2 => P (i + 1) e2 h2
      | .bk e2 h2 => Rs (.nx e2 h2)
      | r => Rs r)) (fin : ∀ env h, P ds.length env h → Rs (.nx env h)) (h0 : P 0 env h) : Rs (forM (.st ds) gg s ((Src.st ds).many h + 1) 0 env h) := by
  have go : ∀ m i env h, i + m = ds.length + 1 → i ≤ ds.length → P i env h → Rs (forM (.st ds) gg s m i env h) := by
    intro m
    induction m with
    | zero => intro i env h e l; omega
    | succ m ih =>
      intro i env h e l p
      unfold forM
      rw [if_pos (show (Src.st ds).ok h = true from rfl)]
      show Rs (match ds[i]? with
        | none => _
        | some d => _)
      cases hd : ds[i]? with
      | none =>
        have : i = ds.length := by
          have := List.getElem?_eq_none_iff.mp hd
          omega
        subst this
        exact fin env h p
      | some d =>
        have hi := (List.getElem?_eq_some_iff.mp hd).1
        obtain ⟨e1, g1, st⟩ := step i d env h hd p
        dsimp only
        rw [g1]
        dsimp only
        revert st
        cases s e1 h with
        | nx e2 h2 => exact fun st => ih (i + 1) e2 h2 (by omega) (by omega) st
        | ct e2 h2 => exact fun st => ih (i + 1) e2 h2 (by omega) (by omega) st
        | bk e2 h2 => exact fun st => st
        | rt d2 h2 => exact fun st => st
        | ex c d2 e2 h2 => exact fun st => st
        | no => exact fun st => st
  exact go _ 0 env h (by show 0 + (ds.length + 1) = _; omega) (Nat.zero_le _) h0
theorem msWhile_inv {c : MT} (P : Nat → EV → IH → Prop) (Rs : RS → Prop)
    (step : ∀ m env h, P m env h → match c env h with
      | .ok true h1 => (match s env h1 with
        | .nx e2 h2 => ∃ m', m' < m ∧ P m' e2 h2
        | .ct e2 h2 => ∃ m', m' < m ∧ P m' e2 h2
        | .bk e2 h2 => Rs (.nx e2 h2)
        | r => Rs r)
      | .ok false h1 => Rs (.nx env h1)
      | .ex cl d h1 => Rs (.ex cl d env h1)
      | .no => Rs .no) : ∀ (m : Nat) (env : EV) (h : IH), P m env h → Rs (msWhile c s env h) := by
  intro m
  induction m using Nat.strongRecOn with
  | _ m ih =>
    intro env h p
    have st := step m env h p
    rw [msWhile_eq]
    revert st
    cases c env h with
    | no => exact fun st => st
    | ex cl d h1 => exact fun st => st
    | ok b h1 =>
      cases b with
      | false => exact fun st => st
      | true =>
        dsimp only
        cases s env h1 with
        | nx e2 h2 => exact fun ⟨m', l, p'⟩ => ih m' l e2 h2 p'
        | ct e2 h2 => exact fun ⟨m', l, p'⟩ => ih m' l e2 h2 p'
        | bk e2 h2 => exact fun st => st
        | rt d2 h2 => exact fun st => st
        | ex c d2 e2 h2 => exact fun st => st
        | no => exact fun st => st
/-- a comprehension over what stands still -/
theorem lcM_inv {ds : List D} {gg : MG} {n : Nat} (P : Nat → IH → Prop) (Rs : R D → Prop)
    (step : ∀ i d h, ds[i]? = some d → P i h → ∃ e1, gg d env = some e1 ∧ (match t e1 h with
      | .ok true h2 => ∃ y h3 acc, m e1 h2 = .ok y h3 ∧ h3[n]? = some (.lst acc) ∧ acc.length < 10000000 ∧ P (i + 1) (h3.set n (.lst (acc ++ [y])))
      | .ok false h2 => P (i + 1) h2
      | _ => False)) (fin : ∀ h, P ds.length h → Rs (.ok (.ref n) h)) (h0 : P 0 h) : Rs (lcM (.st ds) gg t m n ((Src.st ds).many h' + 1) 0 env h) := by
  have go : ∀ k i h, i + k = ds.length + 1 → i ≤ ds.length → P i h → Rs (lcM (.st ds) gg t m n k i env h) := by
    intro k
    induction k with
    | zero => intro i h e l; omega
    | succ k ih =>
      intro i h e l p
      unfold lcM
      rw [if_pos (show (Src.st ds).ok h = true from rfl)]
      show Rs (match ds[i]? with
        | none => _
        | some d => _)
      cases hd : ds[i]? with
      | none =>
        have : i = ds.length := by
          have := List.getElem?_eq_none_iff.mp hd
          omega
        subst this
        exact fin h p
      | some d =>
        have hi := (List.getElem?_eq_some_iff.mp hd).1
        obtain ⟨e1, g1, st⟩ := step i d h hd p
        dsimp only
        rw [g1]
        dsimp only
        revert st
        cases t e1 h with
        | no => exact fun st => st.elim
        | ex _ _ _ => exact fun st => st.elim
        | ok b h2 =>
          cases b with
          | false => exact fun st => ih (i + 1) h2 (by omega) (by omega) st
          | true =>
            rintro ⟨y, h3, acc, e3, e4, l4, p4⟩
            dsimp only
            rw [e3]
            dsimp only
            rw [e4]
            dsimp only
            rw [if_pos l4]
            exact ih (i + 1) _ (by omega) (by omega) p4
  exact go _ 0 h (by show 0 + (ds.length + 1) = _; omega) (Nat.zero_le _) h0
theorem get_last {h : IH} {c : Cell} : (h ++ [c])[h.length]? = some c := by simp
theorem set_last {h : IH} {c c' : Cell} : (h ++ [c]).set h.length c' = h ++ [c'] := by simp
/-- a comprehension of what is reckoned of each -/
theorem lcM_map {ds : List D} {gg : MG} (F : D → D) (hl : ds.length ≤ 9000000) (step : ∀ d ∈ ds, ∃ e1, gg d env = some e1 ∧ ∀ x, m e1 (h ++ [x]) = .ok (F d) (h ++ [x])) :
    lcM (.st ds) gg mYes m h.length ((Src.st ds).many h' + 1) 0 env (h ++ [.lst []]) = .ok (.ref h.length) (h ++ [.lst (ds.map F)]) := by
  refine lcM_inv (P := fun i h' => h' = h ++ [.lst ((ds.take i).map F)]) (Rs := fun r => r = .ok (.ref h.length) (h ++ [.lst (ds.map F)])) ?_ ?_ ?_
  · intro i d h' hd hp
    subst hp
    obtain ⟨e1, g1, st⟩ := step d (List.mem_of_getElem? hd)
    refine ⟨e1, g1, ?_⟩
    show ∃ y h3 acc, m e1 _ = .ok y h3 ∧ _
    refine ⟨F d, _, _, st _, get_last, ?_, ?_⟩
    · rw [List.length_map, List.length_take]
      omega
    · rw [set_last, List.take_add_one, hd]
      simp
  · intro h' hp
    rw [hp, List.take_length]
  · simp
theorem lcM_filter {ds : List D} {gg : MG} (F : D → D) (p : D → Bool) (hl : ds.length ≤ 9000000) (step : ∀ d ∈ ds, ∃ e1, gg d env = some e1 ∧ (∀ x, t e1 (h ++ [x]) = .ok (p d) (h ++ [x])) ∧ ∀ x, p d = true → m e1 (h ++ [x]) = .ok (F d) (h ++ [x])) :
    lcM (.st ds) gg t m h.length ((Src.st ds).many h' + 1) 0 env (h ++ [.lst []]) = .ok (.ref h.length) (h ++ [.lst ((ds.filter p).map F)]) := by
  refine lcM_inv (P := fun i h' => h' = h ++ [.lst (((ds.take i).filter p).map F)]) (Rs := fun r => r = .ok (.ref h.length) (h ++ [.lst ((ds.filter p).map F)])) ?_ ?_ ?_
  · intro i d h' hd hp
    subst hp
    obtain ⟨e1, g1, tt, st⟩ := step d (List.mem_of_getElem? hd)
    refine ⟨e1, g1, ?_⟩
    rw [tt]
    cases hpd : p d with
    | true =>
      dsimp only
      refine ⟨F d, _, _, st _ hpd, get_last, ?_, ?_⟩
      · rw [List.length_map]
        have := List.length_filter_le p (ds.take i)
        rw [List.length_take] at this
        omega
      · rw [set_last, List.take_add_one, hd]
        simp [hpd]
    | false =>
      dsimp only
      rw [List.take_add_one, hd]
      simp [hpd]
  · intro h' hp
    rw [hp, List.take_length]
  · simp
theorem joinN_nil : ∀ ys : List (List Nat), joinN [] ys = ys.flatten
  | [] => rfl
  | [x] => by simp [joinN]
  | x :: y :: r => by
    unfold joinN
    rw [joinN_nil (y :: r)]
    simp
theorem sum_lens (ys : List (List Nat)) : (ys.map List.length).sum = ys.flatten.length := by
  induction ys with
  | nil => rfl
  | cons y ys ih => rw [List.map_cons, List.sum_cons, ih, List.flatten_cons, List.length_append]
theorem join_nil_eq {h : IH} {n : Nat} {ys : List (List Nat)} (e : h[n]? = some (.lst (ys.map D.str))) (l : ys.flatten.length ≤ 10000000) : fJoin (.str []) [.ref n] h = .ok (.str ys.flatten) h := by
  unfold fJoin; dsimp only
  have e1 : (seqOf h (.ref n)).bind (allM D.str?) = some ys := by
    unfold seqOf
    dsimp only
    rw [e]
    exact allM_mkStrs ys
  rw [e1]
  dsimp only
  rw [sum_lens, List.length_nil, Nat.mul_zero, Nat.add_zero, joinN_nil, if_pos l]
theorem ixN_toNat {n : Nat} {i : Int} (h0 : 0 ≤ i) (h1 : i < n) : ixN n i = some i.toNat := by
  unfold ixN
  rw [if_pos h0, if_pos h1]
theorem dIx_str {s : List Nat} {i : Int} {c : Nat} (h0 : 0 ≤ i) (e : s[i.toNat]? = some c) (l : s.length ≤ 10000000) : dIx (.str s) (.int i) h = .ok (.str [c]) h := by
  have hi := (List.getElem?_eq_some_iff.mp e).1
  show getD' _ _ _ = _
  unfold getD'
  dsimp only
  rw [ixN_toNat h0 (by omega)]
  dsimp only [Option.bind]
  rw [e]
  dsimp only
  rw [if_pos l]
theorem dIx_seq {o : D} {xs : List D} {i : Int} {d : D} (hs : seqOf h o = some xs) (h0 : 0 ≤ i) (e : xs[i.toNat]? = some d) : dIx o (.int i) h = .ok d h := by
  have hi := (List.getElem?_eq_some_iff.mp e).1
  show getD' _ _ _ = _
  unfold getD'
  cases o with
  | str s => simp [seqOf] at hs
  | _ =>
    dsimp only
    rw [hs]
    dsimp only [Option.bind]
    rw [ixN_toNat h0 (by omega)]
    dsimp only [Option.bind]
    rw [e]
/-- an item of a list's cell -/
theorem dIx_ref {n : Nat} {xs : List D} {i : Int} {d : D} (hs : h[n]? = some (.lst xs)) (h0 : 0 ≤ i) (e : xs[i.toNat]? = some d) : dIx (.ref n) (.int i) h = .ok d h := dIx_seq (by unfold seqOf; dsimp only; rw [hs]) h0 e
theorem putD_ref {n : Nat} {xs : List D} {i : Int} {v : D} (hs : h[n]? = some (.lst xs)) (h0 : 0 ≤ i) (l : i < xs.length) : putD (.ref n) (.int i) v h = some (h.set n (.lst (xs.set i.toNat v))) := by
  unfold putD
  dsimp only
  rw [hs]
  dsimp only
  rw [ixN_toNat h0 l]
  rfl
theorem getL_ref {n : Nat} {xs : List D} {i : Int} {d : D} (hs : h[n]? = some (.lst xs)) (h0 : 0 ≤ i) (e : xs[i.toNat]? = some d) : getL (.ref n) (.int i) h = some d := by
  have hi := (List.getElem?_eq_some_iff.mp e).1
  unfold getL
  dsimp only
  unfold lstOf
  dsimp only
  rw [hs]
  dsimp only [Option.bind]
  rw [ixN_toNat h0 (by omega)]
  dsimp only [Option.bind]
  rw [e]
theorem sIx_int {n d : Nat} {i : Int} (h0 : 0 ≤ i) : HT.sIx n d (some i) = min i.toNat n := by
  show (if i < 0 then (i + (n : Int)).toNat else min i.toNat n) = _
  rw [if_neg (by omega)]
theorem cut_two {A : Type} (xs : List A) (a b : Nat) : (xs.drop (min a xs.length)).take (min b xs.length - min a xs.length) = (xs.drop a).take (b - a) := by
  apply List.ext_getElem?
  intro j
  rw [List.getElem?_take, List.getElem?_take, List.getElem?_drop, List.getElem?_drop]
  by_cases ha : a ≤ xs.length
  · rw [Nat.min_eq_left ha]
    by_cases hb : b ≤ xs.length
    · rw [Nat.min_eq_left hb]
    · rw [Nat.min_eq_right (by omega)]
      by_cases hj : j < xs.length - a
      · rw [if_pos hj, if_pos (by omega)]
      · rw [if_neg hj, List.getElem?_eq_none (by omega)]
        split <;> rfl
  · rw [List.getElem?_eq_none (i := a + j) (by omega), List.getElem?_eq_none (i := min a xs.length + j) (by rw [Nat.min_eq_right (show xs.length ≤ a by omega)]; omega)]
    split <;> split <;> rfl
theorem cutN_two {xs : List Nat} {i j : Int} (h0 : 0 ≤ i) (h1 : 0 ≤ j) : cutN xs (some i) (some j) = (xs.drop i.toNat).take (j.toNat - i.toNat) := by
  unfold cutN
  rw [sIx_int h0, sIx_int h1, cut_two]
theorem cutN_to {xs : List Nat} {j : Int} (h1 : 0 ≤ j) : cutN xs none (some j) = xs.take j.toNat := by
  unfold cutN
  rw [sIx_int h1, HT.sIx_none, List.drop_zero, Nat.sub_zero]
  apply List.ext_getElem?
  intro k
  rw [List.getElem?_take, List.getElem?_take]
  by_cases hk : k < j.toNat
  · rw [if_pos hk]
    by_cases hx : k < xs.length
    · rw [if_pos (by omega)]
    · rw [List.getElem?_eq_none (by omega)]
      split <;> rfl
  · rw [if_neg hk, if_neg (by omega)]
theorem cutN_from {xs : List Nat} {i : Int} (h1 : 0 ≤ i) : cutN xs (some i) none = xs.drop i.toNat := by
  unfold cutN
  rw [sIx_int h1, HT.sIx_none]
  have e := cut_two xs i.toNat xs.length
  rw [Nat.min_self] at e
  rw [e, List.take_of_length_le (by rw [List.length_drop]; exact Nat.le_refl _)]
theorem cutD_two {xs : List D} {i j : Int} (h0 : 0 ≤ i) (h1 : 0 ≤ j) : cutD xs (some i) (some j) = (xs.drop i.toNat).take (j.toNat - i.toNat) := by
  unfold cutD
  rw [sIx_int h0, sIx_int h1, cut_two]
theorem cutD_to {xs : List D} {j : Int} (h1 : 0 ≤ j) : cutD xs none (some j) = xs.take j.toNat := by
  unfold cutD
  rw [sIx_int h1, HT.sIx_none, List.drop_zero, Nat.sub_zero]
  apply List.ext_getElem?
  intro k
  rw [List.getElem?_take, List.getElem?_take]
  by_cases hk : k < j.toNat
  · rw [if_pos hk]
    by_cases hx : k < xs.length
    · rw [if_pos (by omega)]
    · rw [List.getElem?_eq_none (by omega)]
      split <;> rfl
  · rw [if_neg hk, if_neg (by omega)]
theorem cutD_from {xs : List D} {i : Int} (h1 : 0 ≤ i) : cutD xs (some i) none = xs.drop i.toNat := by
  unfold cutD
  rw [sIx_int h1, HT.sIx_none]
  have e := cut_two xs i.toNat xs.length
  rw [Nat.min_self] at e
  rw [e, List.take_of_length_le (by rw [List.length_drop]; exact Nat.le_refl _)]
theorem bLen_str_if {s : List Nat} : bLen [.str s] h = if s.length ≤ 10000000 then .ok (.int (s.length : Nat)) h else .no := rfl
@[simp] theorem bLen_tup {l : List D} : bLen [.tup l] h = .ok (.int (l.length : Nat)) h := rfl
theorem bLen_ref {n : Nat} {xs : List D} (e : h[n]? = some (.lst xs)) : bLen [.ref n] h = .ok (.int (xs.length : Nat)) h := by
  unfold bLen
  dsimp only
  rw [e]
@[simp] theorem bAbs_int {i : Int} : bAbs [.int i] h = .ok (.int (if i < 0 then -i else i)) h := rfl
@[simp] theorem bMax2_int {i j : Int} : bMax2 [.int i, .int j] h = .ok (.int (if j > i then j else i)) h := rfl
@[simp] theorem bMin2_int {i j : Int} : bMin2 [.int i, .int j] h = .ok (.int (if j < i then j else i)) h := rfl
@[simp] theorem bInt1_int {i : Int} : bInt1 [.int i] h = .ok (.int i) h := rfl
@[simp] theorem bInt1_bl {b : Bool} : bInt1 [.bl b] h = .ok (.int (if b then 1 else 0)) h := rfl
@[simp] theorem dIAdd_int {i j : Int} : dIAdd (.int i) (.int j) h = .ok (.int (i + j)) h := rfl
theorem dIAdd_str_if {a b : List Nat} : dIAdd (.str a) (.str b) h = if a.length + b.length ≤ 10000000 then .ok (.str (a ++ b)) h else .no := rfl
@[simp] theorem dISub_int {i j : Int} : dISub (.int i) (.int j) h = .ok (.int (i - j)) h := rfl
theorem sliceD_str_if {s : List Nat} {l u : Option Int} : sliceD (.str s) l u h = if s.length ≤ 10000000 then .ok (.str (cutN s l u)) h else .no := rfl
@[simp] theorem sliceD_tup {s : List D} {l u : Option Int} : sliceD (.tup s) l u h = .ok (.tup (cutD s l u)) h := rfl
theorem is_str_str {s : List Nat} : isT "str" h (.str s) = some true := by
  show kitB "str" "str" = some true
  decide +kernel
theorem set_same {n : Nat} {c : Cell} (e : h[n]? = some c) : h.set n c = h := by
  apply List.ext_getElem?
  intro j
  by_cases hj : n = j
  · subst hj
    rw [List.getElem?_set_self (List.getElem?_eq_some_iff.mp e).1, e]
  · rw [List.getElem?_set_ne hj]
theorem get_set {n : Nat} {c c' : Cell} (e : h[n]? = some c) : (h.set n c')[n]? = some c' := List.getElem?_set_self (List.getElem?_eq_some_iff.mp e).1
theorem get_set_ne {n j : Nat} {c : Cell} (ne : n ≠ j) : (h.set n c)[j]? = h[j]? := List.getElem?_set_ne ne
@[simp] theorem loL_ints {n : Nat} (ns : List Int) : D.loL n (ns.map D.int) = true := by
  induction ns with
  | nil => simp [D.loL]
  | cons x xs ih => simp [D.loL, D.lo, ih]
@[simp] theorem loL_strs {n : Nat} (ns : List (List Nat)) : D.loL n (ns.map D.str) = true := by
  induction ns with
  | nil => simp [D.loL]
  | cons x xs ih => simp [D.loL, D.lo, ih]
/-! locked at once -/
open Classical in
/-- a new list that is locked at once -/
noncomputable def fzD (h h1 : IH) (xs : List D) : R D := fzR h (newL h1 xs)
theorem fz_newL {xs : List D} : fzR h (newL h' xs) = fzD h h' xs := rfl
theorem fz_bind {r : R A} {k : A → IH → R D} : fzR h (r.bind k) = r.bind fun a h1 => fzR h (k a h1) := by cases r <;> rfl
theorem fz_ite {p : Prop} [Decidable p] {r1 r2 : R D} : fzR h (if p then r1 else r2) = if p then fzR h r1 else fzR h r2 := by split <;> rfl
@[simp] theorem fz_no : fzR h .no = .no := rfl
@[simp] theorem fz_ex {c : Str} {d : XF} : fzR h (.ex c d h') = .ex c d h' := rfl
@[simp] theorem fz_non : fzR h (.ok .non h') = .ok .non h' := rfl
@[simp] theorem fz_bl {b : Bool} : fzR h (.ok (.bl b) h') = .ok (.bl b) h' := rfl
@[simp] theorem fz_int {b : Int} : fzR h (.ok (.int b) h') = .ok (.int b) h' := rfl
@[simp] theorem fz_str {b : List Nat} : fzR h (.ok (.str b) h') = .ok (.str b) h' := rfl
@[simp] theorem fz_tup {b : List D} : fzR h (.ok (.tup b) h') = .ok (.tup b) h' := rfl
@[simp] theorem fz_fl {b : List D} : fzR h (.ok (.fl b) h') = .ok (.fl b) h' := rfl
@[simp] theorem fz_fd {ks : List DKey} {b : List D} : fzR h (.ok (.fd ks b) h') = .ok (.fd ks b) h' := rfl
theorem fzR_at {n : Nat} {xs : List D} (e : h'[n]? = some (.lst xs)) (hn : h.length ≤ n) (lo : D.loL h.length xs = true) (ok : okB h.length h h') : fzR h (.ok (.ref n) h') = .ok (.fl xs) (h'.take h.length) := by
  unfold fzR
  dsimp only
  rw [e]
  dsimp only
  rw [if_pos ⟨hn, lo, ok⟩]
theorem fzD_same {xs : List D} (lo : D.loL h.length xs = true) : fzD h h xs = .ok (.fl xs) h := by
  unfold fzD newL
  rw [fzR_at (xs := xs) (by simp) (Nat.le_refl _) lo okB_self]
  simp
theorem fzD_pen {xs : List D} {z c c' : Cell} {g : IH} (lo : ∀ k, D.loL k xs = true) (lc : ∀ k, Cell.lo k c' = true) : fzD (z :: c :: g) (z :: c' :: g) xs = .ok (.fl xs) (z :: c' :: g) := by
  unfold fzD newL
  rw [fzR_at (n := (z :: c' :: g).length) (xs := xs) (by simp) (by simp) (lo _) (by simp [lc])]
  simp
/-- with old cells changed: nothing new is told of -/
theorem fzD_len {xs : List D} (hl : h'.length = h.length) (lo : D.loL h.length xs = true) (ok : okB h.length h (h' ++ [.lst xs])) : fzD h h' xs = .ok (.fl xs) h' := by
  unfold fzD newL
  rw [fzR_at (xs := xs) (by simp) (by omega) lo ok]
  simp [← hl]
theorem ap_mFz0 : mFz m env h = fzR h (m env h) := rfl
@[simp] theorem ap_mFz_lst : mFz (mLst ta) env h = (ta env h).bind fun xs h1 => if xs.length ≤ 10000000 then fzD h h1 xs else .no := by
  rw [ap_mFz0, ap_mLst, fz_bind]
  congr 1
  funext xs h1
  rw [fz_ite]
  rfl
@[simp] theorem ap_mFz_op : mFz (mOp f a b) env h = (a env h).bind fun x h1 => (b env h1).bind fun y h2 => fzR h (f x y h2) := by
  rw [ap_mFz0, ap_mOp, fz_bind]
  congr 1
  funext x h1
  rw [fz_bind]
@[simp] theorem ap_mFz_slice {l u : MO} : mFz (mSlice m l u) env h = (m env h).bind fun x h1 => (l env h1).bind fun l h2 => (u env h2).bind fun u h3 => fzR h (sliceD x l u h3) := by
  rw [ap_mFz0, ap_mSlice, fz_bind]
  congr 1
  funext x h1
  rw [fz_bind]
  congr 1
  funext x h1
  rw [fz_bind]
@[simp] theorem ap_mFz_B {fb : List D → IH → R D} : mFz (mB fb ta) env h = (ta env h).bind fun xs h1 => fzR h (fb xs h1) := by rw [ap_mFz0, ap_mB, fz_bind]
@[simp] theorem ap_mFz_call {n : Nat} {fm : MF} : mFz (mCall n fm ta) env h = (ta env h).bind fun ds h1 => fzR h (callC n fm ds h1) := by rw [ap_mFz0, ap_mCall, fz_bind]
@[simp] theorem ap_msRaise {x : Str} : msRaise x env h = .ex x none env h := rfl
@[simp] theorem ap_msFz_fl {i : Nat} {xs : List D} {b : MS} (e : env[i]? = some (some (.fl xs))) : msFz i b env h = b env h := by unfold msFz; rw [e]
theorem ap_msFz {i n : Nat} {xs : List D} {b : MS} (e : env[i]? = some (some (.ref n))) (e2 : h[n]? = some (.lst xs)) : msFz i b env h = b (env.set i (some (.fl xs))) (h.set n (.frz xs)) := by unfold msFz; rw [e]; dsimp only; rw [e2]
theorem dAdd_fl {a b : List D} : dAdd (.fl a) (.fl b) h = if a.length + b.length ≤ 10000000 then newL h (a ++ b) else .no := rfl
theorem dAdd_tup {a b : List D} : dAdd (.tup a) (.tup b) h = if a.length + b.length ≤ 10000000 then .ok (.tup (a ++ b)) h else .no := rfl
theorem sliceD_fl {l : List D} {lo hi : Option Int} : sliceD (.fl l) lo hi h = newL h (cutD l lo hi) := rfl
theorem bListX_str {s : List Nat} : bListX [.str s] h = if s.length ≤ 10000000 then newL h (sgD s) else .no := rfl
theorem bListX_fl {s : List D} : bListX [.fl s] h = newL h s := rfl
theorem bListX_tup {s : List D} : bListX [.tup s] h = newL h s := rfl
@[simp] theorem bTupleX_fl {s : List D} : bTupleX [.fl s] h = .ok (.tup s) h := rfl
@[simp] theorem bTupleX_tup {s : List D} : bTupleX [.tup s] h = .ok (.tup s) h := rfl
@[simp] theorem bLen_fl {l : List D} : bLen [.fl l] h = .ok (.int (l.length : Nat)) h := rfl
@[simp] theorem bSum_fl {ns : List Int} : bSum [.fl (ns.map D.int)] h = .ok (.int ns.sum) h := by
  show (match (some (ns.map D.int)).bind (allM D.int?) with | some ns => R.ok (D.int ns.sum) h | none => .no) = _
  simp
@[simp] theorem bAll_fl {ns : List Bool} : bAll [.fl (ns.map D.bl)] h = .ok (.bl (ns.all id)) h := by
  show (match (some (ns.map D.bl)).bind (allM D.bl?) with | some bs => R.ok (D.bl (bs.all id)) h | none => .no) = _
  simp
@[simp] theorem bAny_fl {ns : List Bool} : bAny [.fl (ns.map D.bl)] h = .ok (.bl (ns.any id)) h := by
  show (match (some (ns.map D.bl)).bind (allM D.bl?) with | some bs => R.ok (D.bl (bs.any id)) h | none => .no) = _
  simp
theorem bSorted_fl {ns : List Int} : bSorted [.fl (ns.map D.int)] h = newL h ((isrt ns).map D.int) := by
  show (match (some (ns.map D.int)).bind (allM D.int?) with | some ns => R.ok (D.ref h.length) (h ++ [Cell.lst ((isrt ns).map D.int)]) | none => .no) = _
  simp [newL]
@[simp] theorem isT_fl {T : String} {b : List D} : isT T h (.fl b) = kitB "list" T := rfl
@[simp] theorem isT_fd {T : String} {ks : List DKey} {b : List D} : isT T h (.fd ks b) = kitB "dict" T := rfl
@[simp] theorem tyD_str {T : String} {s : List Nat} : tyD T h (.str s) = (T == "str") := rfl
@[simp] theorem tyD_fl {T : String} {s : List D} : tyD T h (.fl s) = (T == "list") := rfl
@[simp] theorem loL_nil {n : Nat} : D.loL n [] = true := rfl
@[simp] theorem loL_cons {n : Nat} {d : D} {ds : List D} : D.loL n (d :: ds) = (D.lo n d && D.loL n ds) := rfl
@[simp] theorem lo_int {n : Nat} {i : Int} : D.lo n (.int i) = true := rfl
@[simp] theorem lo_bl {n : Nat} {i : Bool} : D.lo n (.bl i) = true := rfl
@[simp] theorem lo_non {n : Nat} : D.lo n .non = true := rfl
@[simp] theorem lo_str {n : Nat} {i : List Nat} : D.lo n (.str i) = true := rfl
@[simp] theorem lo_tup {n : Nat} {i : List D} : D.lo n (.tup i) = D.loL n i := rfl
@[simp] theorem lo_fl {n : Nat} {i : List D} : D.lo n (.fl i) = D.loL n i := rfl
@[simp] theorem lo_fd {n : Nat} {ks : List DKey} {i : List D} : D.lo n (.fd ks i) = D.loL n i := rfl
@[simp] theorem lo_ref {n i : Nat} : D.lo n (.ref i) = decide (i < n) := rfl
@[simp] theorem clo_lst {n : Nat} {i : List D} : Cell.lo n (.lst i) = D.loL n i := rfl
theorem loL_of {n : Nat} : ∀ {ds : List D}, (∀ d ∈ ds, D.lo n d = true) → D.loL n ds = true
  | [], _ => rfl
  | d :: ds, h => by simp [h d List.mem_cons_self, loL_of fun x hx => h x (List.mem_cons_of_mem _ hx)]
theorem loL_mem {n : Nat} : ∀ {ds : List D}, D.loL n ds = true → ∀ d ∈ ds, D.lo n d = true
  | d :: ds, h, x, hx => by
    simp at h
    rcases List.mem_cons.mp hx with rfl | hx
    · exact h.1
    · exact loL_mem h.2 x hx
@[simp] theorem loL_map {T : Type} {n : Nat} {f : T → D} {l : List T} : D.loL n (l.map f) = l.all fun x => D.lo n (f x) := by
  induction l with
  | nil => rfl
  | cons x l ih => simp [ih]
@[simp] theorem loL_app {n : Nat} {a b : List D} : D.loL n (a ++ b) = (D.loL n a && D.loL n b) := by
  induction a with
  | nil => simp
  | cons x l ih => simp [ih, Bool.and_assoc]
/-! numbers from nought -/
def nD (x : Nat) : D := .int (x : Nat)
theorem nD_eq (x : Nat) : nD x = .int (x : Nat) := rfl
@[simp] theorem lo_nD {n x : Nat} : D.lo n (nD x) = true := rfl
theorem nD_inj {a b : Nat} : nD a = nD b ↔ a = b := ⟨fun z => by injection z with z; omega, fun z => by rw [z]⟩
theorem nD_map (l : List Nat) : l.map nD = (l.map fun (x : Nat) => (x : Int)).map D.int := by rw [List.map_map]; rfl
theorem nats_of {m : Nat} : ∀ {ys : List D}, (∀ y ∈ ys, ∃ x, y = nD x ∧ x < m) → ∃ row : List Nat, ys = row.map nD ∧ ∀ x ∈ row, x < m
  | [], _ => ⟨[], rfl, by simp⟩
  | y :: ys, hp => by
    obtain ⟨x, rfl, hx⟩ := hp y List.mem_cons_self
    obtain ⟨row, rfl, hr⟩ := nats_of fun z hz => hp z (List.mem_cons_of_mem _ hz)
    exact ⟨x :: row, rfl, by simpa using ⟨hx, hr⟩⟩
theorem append_at {n : Nat} {xs : List D} {y : D} (e : h[n]? = some (.lst xs)) (l : xs.length < 10000000) : fAppend (.ref n) [y] h = .ok .non (h.set n (.lst (xs ++ [y]))) := by
  unfold fAppend
  dsimp only
  rw [e]
  dsimp only
  rw [if_pos l]
theorem tyD_ref {n : Nat} {xs : List D} (e : h[n]? = some (.lst xs)) : tyD "list" h (.ref n) = true := by
  unfold tyD
  dsimp only
  rw [e]
  rfl
theorem lstOf_ref {n : Nat} {xs : List D} (e : h[n]? = some (.lst xs)) : lstOf h (.ref n) = some xs := by
  unfold lstOf
  dsimp only
  rw [e]
theorem seqOf_ref {n : Nat} {xs : List D} (e : h[n]? = some (.lst xs)) : seqOf h (.ref n) = some xs := by
  unfold seqOf
  dsimp only
  rw [e]
@[simp] theorem seqOf_fl {l : List D} : seqOf h (.fl l) = some l := rfl
@[simp] theorem seqOf_tup {l : List D} : seqOf h (.tup l) = some l := rfl
@[simp] theorem lstOf_fl {l : List D} : lstOf h (.fl l) = some l := rfl
theorem allM_pyInts {k : Nat} (ns : List Int) : allM (D.py h (k + 1)) (ns.map D.int) = some (ns.map PyData.int) := by
  induction ns with
  | nil => rfl
  | cons z zs ih =>
    rw [List.map_cons, List.map_cons]
    unfold allM
    rw [ih]
    rfl
theorem dIn_ints {neg : Bool} {a : Int} {y : D} {ns : List Int} (e : seqOf h y = some (ns.map D.int)) : dIn neg (.int a) y h = .ok (.bl (if neg then !decide (a ∈ ns) else decide (a ∈ ns))) h := by
  have ea : (ns.map PyData.int).any (fun z => PyData.eqv z (.int a)) = decide (a ∈ ns) := by
    clear e
    induction ns with
    | nil => rfl
    | cons n ns ih =>
      have hb : (n == a) = decide (a = n) := by
        by_cases hz : a = n
        · subst hz; simp
        · rw [decide_eq_false hz]; exact beq_eq_false_iff_ne.mpr fun z => hz z.symm
      simp only [List.map_cons, List.any_cons, ih, PyData.eqv, List.mem_cons, Bool.decide_or, hb]
  unfold dIn
  split
  · rename_i h1 h2; cases h2
  · rw [show D.py h 50 (.int a) = some (.int a) from rfl, e]
    show (match some (PyData.int a), allM (D.py h (48 + 1)) (ns.map D.int) with | some a, some bs => R.ok (D.bl _) h | _, _ => .no) = _
    rw [allM_pyInts]
    dsimp only
    rw [ea]
theorem dIn_nats {neg : Bool} {a : Nat} {y : D} {ns : List Nat} (e : seqOf h y = some (ns.map nD)) : dIn neg (.int (a : Nat)) y h = .ok (.bl (if neg then !decide (a ∈ ns) else decide (a ∈ ns))) h := by
  rw [dIn_ints (ns := ns.map fun (x : Nat) => (x : Int)) (by rw [e, nD_map])]
  have : decide (((a : Nat) : Int) ∈ ns.map fun (x : Nat) => (x : Int)) = decide (a ∈ ns) := by
    refine decide_eq_decide.mpr ⟨fun hm => ?_, fun hm => List.mem_map.mpr ⟨a, hm, rfl⟩⟩
    obtain ⟨x, hx, e2⟩ := List.mem_map.mp hm
    have : x = a := by omega
    rw [← this]
    exact hx
  rw [this]
theorem dIx_nat {o : D} {xs : List D} {n : Nat} {d : D} (hs : seqOf h o = some xs) (e : xs[n]? = some d) : dIx o (.int (n : Nat)) h = .ok d h := dIx_seq hs (by omega) (by simpa using e)
theorem idxOf_cast (ns : List Nat) (y : Nat) : (ns.map fun (x : Nat) => (x : Int)).idxOf (y : Int) = ns.idxOf y := by
  induction ns with
  | nil => rfl
  | cons n ns ih =>
    rw [List.map_cons, List.idxOf_cons, List.idxOf_cons, ih]
    have : (((n : Nat) : Int) == (y : Int)) = (n == y) := by
      rw [Bool.eq_iff_iff, beq_iff_eq, beq_iff_eq]
      omega
    rw [this]
theorem fIndexL_nats {ns : List Nat} {y : Nat} (hy : y ∈ ns) : fIndexL (.fl (ns.map nD)) [.int (y : Nat)] h = .ok (nD (ns.idxOf y)) h := by
  unfold fIndexL
  dsimp only
  have e : (lstOf h (.fl (ns.map nD))).bind (allM D.int?) = some (ns.map fun (x : Nat) => (x : Int)) := by
    rw [nD_map]
    exact allM_mkInts _
  rw [e]
  dsimp only
  rw [if_pos (List.mem_map.mpr ⟨y, hy, rfl⟩), idxOf_cast]
  rfl
theorem iRange1_of {j : Int} {k : Nat} (e : ta env h = .ok [.int j] h') (hj : j = (k : Nat)) (l : k ≤ 10000000) : iRange1 ta env h = .ok (.st (intsFrom 0 k)) h' := by
  subst hj
  rw [ap_iRange1, e]
  rw [bind_ok]
  dsimp only
  rw [if_pos ⟨by omega, by omega⟩, Int.toNat_natCast]
theorem iRange2_of {i j : Int} {k : Nat} (e : ta env h = .ok [.int i, .int j] h') (hj : j = i + (k : Nat)) (l0 : -10000000 ≤ i) (l : j ≤ 10000000) : iRange2 ta env h = .ok (.st (intsFrom i k)) h' := by
  subst hj
  rw [ap_iRange2, e]
  rw [bind_ok]
  dsimp only
  rw [if_pos ⟨by omega, by omega, by omega, by omega⟩, show (i + (k : Nat) - i).toNat = k by omega]
/-! what a loop's turn leaves -/
def Nx (P : EV → IH → Prop) (Rs : RS → Prop) : RS → Prop
  | .nx e h => P e h
  | .ct e h => P e h
  | .bk e h => Rs (.nx e h)
  | .rt d h => Rs (.rt d h)
  | .ex c d e h => Rs (.ex c d e h)
  | .no => Rs .no
section
variable {P : EV → IH → Prop} {Rs : RS → Prop}
@[simp] theorem Nx_nx : Nx P Rs (.nx env h) = P env h := rfl
@[simp] theorem Nx_ct : Nx P Rs (.ct env h) = P env h := rfl
@[simp] theorem Nx_bk : Nx P Rs (.bk env h) = Rs (.nx env h) := rfl
@[simp] theorem Nx_rt : Nx P Rs (.rt d h) = Rs (.rt d h) := rfl
@[simp] theorem Nx_ex {c : Str} {x : XF} : Nx P Rs (.ex c x env h) = Rs (.ex c x env h) := rfl
end
/-- a for over what stands still, by an invariant -/
theorem for_inv {ds : List D} {gg : MG} (P : Nat → EV → IH → Prop) (Rs : RS → Prop) (h0 : P 0 env h)
    (step : ∀ i d env h, ds[i]? = some d → P i env h → ∃ e1, gg d env = some e1 ∧ Nx (P (i + 1)) Rs (s e1 h)) (fin : ∀ env h, P ds.length env h → Rs (.nx env h)) : Rs (forM (.st ds) gg s ((Src.st ds).many h' + 1) 0 env h) := by
  refine forM_inv (h := h) P Rs (fun i d env h hd hp => ?_) fin h0
  obtain ⟨e1, g1, st⟩ := step i d env h hd hp
  refine ⟨e1, g1, ?_⟩
  revert st
  cases s e1 h <;> exact fun z => z
/-- a for that runs to its end -/
theorem for_nx {ds : List D} {gg : MG} (P : Nat → EV → IH → Prop) (h0 : P 0 env h)
    (step : ∀ i d env h, ds[i]? = some d → P i env h → ∃ e1 e2 h2, gg d env = some e1 ∧ s e1 h = .nx e2 h2 ∧ P (i + 1) e2 h2) : ∃ e2 h2, forM (.st ds) gg s ((Src.st ds).many h + 1) 0 env h = .nx e2 h2 ∧ P ds.length e2 h2 :=
  for_inv P (fun r => ∃ e2 h2, r = .nx e2 h2 ∧ P ds.length e2 h2) h0 (fun i d env h hd hp => by
    obtain ⟨e1, e2, h2, g1, g2, g3⟩ := step i d env h hd hp
    exact ⟨e1, g1, by rw [g2]; exact g3⟩) fun env h hp => ⟨env, h, rfl, hp⟩
/-- a for that runs to its end, or returns -/
theorem for_rt {ds : List D} {gg : MG} (P : Nat → EV → IH → Prop) (Q : D → IH → Prop) (h0 : P 0 env h)
    (step : ∀ i d env h, ds[i]? = some d → P i env h → ∃ e1, gg d env = some e1 ∧ ((∃ e2 h2, s e1 h = .nx e2 h2 ∧ P (i + 1) e2 h2) ∨ ∃ x h2, s e1 h = .rt x h2 ∧ Q x h2)) :
    (∃ e2 h2, forM (.st ds) gg s ((Src.st ds).many h + 1) 0 env h = .nx e2 h2 ∧ P ds.length e2 h2) ∨ ∃ x h2, forM (.st ds) gg s ((Src.st ds).many h + 1) 0 env h = .rt x h2 ∧ Q x h2 :=
  for_inv P (fun r => (∃ e2 h2, r = .nx e2 h2 ∧ P ds.length e2 h2) ∨ ∃ x h2, r = .rt x h2 ∧ Q x h2) h0 (fun i d env h hd hp => by
    obtain ⟨e1, g1, ⟨e2, h2, g2, g3⟩ | ⟨x, h2, g2, g3⟩⟩ := step i d env h hd hp
    · exact ⟨e1, g1, by rw [g2]; exact g3⟩
    · exact ⟨e1, g1, by rw [g2]; exact .inr ⟨x, h2, rfl, g3⟩⟩) fun env h hp => .inl ⟨env, h, rfl, hp⟩
theorem while_nx {c : MT} (P : Nat → EV → IH → Prop) (m : Nat) (env : EV) (h : IH) (h0 : P m env h)
    (step : ∀ m env h, P m env h → (∃ e2 h2, c env h = .ok true h ∧ s env h = .nx e2 h2 ∧ ∃ m', m' < m ∧ P m' e2 h2) ∨ c env h = .ok false h) : ∃ m e2 h2, msWhile c s env h = .nx e2 h2 ∧ P m e2 h2 ∧ c e2 h2 = .ok false h2 := by
  refine msWhile_inv P (fun r => ∃ m e2 h2, r = .nx e2 h2 ∧ P m e2 h2 ∧ c e2 h2 = .ok false h2) (fun m env h p => ?_) m env h h0
  rcases step m env h p with ⟨e2, h2, g1, g2, g3⟩ | g1
  · rw [g1]; dsimp only; rw [g2]
    exact g3
  · rw [g1]
    exact ⟨m, env, h, rfl, p, g1⟩
theorem while_inv {c : MT} (P : Nat → EV → IH → Prop) (Rs : RS → Prop) (m : Nat) (env : EV) (h : IH) (h0 : P m env h)
    (step : ∀ m env h, P m env h → ∃ b, c env h = .ok b h ∧ (if b = true then Nx (fun e2 h2 => ∃ m', m' < m ∧ P m' e2 h2) Rs (s env h) else Rs (.nx env h))) : Rs (msWhile c s env h) := by
  refine msWhile_inv P Rs (fun m env h p => ?_) m env h h0
  obtain ⟨b, e, st⟩ := step m env h p
  rw [e]
  cases b with
  | false => simpa using st
  | true =>
    simp only [if_true] at st
    dsimp only
    revert st
    cases s env h <;> exact fun z => z
/-- a comprehension that is locked at once: of what is reckoned of each -/
theorem lcF_map {it : MI} {gg : MG} {ws : List Nat} {ds : List D} (F : D → D) (hi : it env h = .ok (.st ds) h) (hl : ds.length ≤ 9000000) (lo : ∀ d ∈ ds, D.lo h.length (F d) = true)
    (step : ∀ d ∈ ds, ∃ e1, gg d (wipeE env ws) = some e1 ∧ ∀ x, m e1 (h ++ [x]) = .ok (F d) (h ++ [x])) : mFz (mLc it gg mYes m ws) env h = .ok (.fl (ds.map F)) h := by
  rw [ap_mFz0, ap_mLc, hi]
  show fzR h (lcM _ _ _ _ _ _ _ _ _) = _
  rw [lcM_map F hl step, fzR_at get_last (Nat.le_refl _) (loL_of fun x hx => by obtain ⟨d, hd, rfl⟩ := List.mem_map.mp hx; exact lo d hd) okB_self]
  simp
theorem lcF_filter {it : MI} {gg : MG} {ws : List Nat} {ds : List D} (F : D → D) (p : D → Bool) (hi : it env h = .ok (.st ds) h) (hl : ds.length ≤ 9000000) (lo : ∀ d ∈ ds, p d = true → D.lo h.length (F d) = true)
    (step : ∀ d ∈ ds, ∃ e1, gg d (wipeE env ws) = some e1 ∧ (∀ x, t e1 (h ++ [x]) = .ok (p d) (h ++ [x])) ∧ ∀ x, p d = true → m e1 (h ++ [x]) = .ok (F d) (h ++ [x])) : mFz (mLc it gg t m ws) env h = .ok (.fl ((ds.filter p).map F)) h := by
  rw [ap_mFz0, ap_mLc, hi]
  show fzR h (lcM _ _ _ _ _ _ _ _ _) = _
  rw [lcM_filter F p hl step, fzR_at get_last (Nat.le_refl _) (loL_of fun x hx => by
    obtain ⟨d, hd, rfl⟩ := List.mem_map.mp hx
    exact lo d (List.mem_filter.mp hd).1 (List.mem_filter.mp hd).2) okB_self]
  simp
/-- .. whose steps draw: Pn b c says that the pen's cell c can draw b times -/
theorem lcF_pen {it : MI} {gg : MG} {ws : List Nat} {ds : List D} {z c0 : Cell} {g : IH} {Pn : Nat → Cell → Prop} {b K : Nat} (lop : ∀ b c k, Pn b c → Cell.lo k c = true) (Po : Nat → D → Prop) (hi : it env (z :: c0 :: g) = .ok (.st ds) (z :: c0 :: g)) (hl : ds.length ≤ 9000000)
    (hp : Pn (b + K * ds.length) c0) (lo : ∀ i y k, Po i y → D.lo k y = true)
    (step : ∀ i d, ds[i]? = some d → ∃ e1, gg d (wipeE env ws) = some e1 ∧ ∀ b c g, Pn (b + K) c → ∃ y c', m e1 (z :: c :: g) = .ok y (z :: c' :: g) ∧ Pn b c' ∧ Po i y) :
    ∃ ys c', mFz (mLc it gg mYes m ws) env (z :: c0 :: g) = .ok (.fl ys) (z :: c' :: g) ∧ ys.length = ds.length ∧ (∀ i y, ys[i]? = some y → Po i y) ∧ Pn b c' := by
  have main : ∃ ys c', lcM (.st ds) gg mYes m (z :: c0 :: g).length ((Src.st ds).many (z :: c0 :: g) + 1) 0 (wipeE env ws) ((z :: c0 :: g) ++ [Cell.lst []]) = .ok (.ref (z :: c0 :: g).length) (z :: c' :: (g ++ [Cell.lst ys])) ∧ ys.length = ds.length ∧ (∀ i y, ys[i]? = some y → Po i y) ∧ Pn b c' := by
    refine lcM_inv (P := fun i h' => ∃ ys c', h' = z :: c' :: (g ++ [Cell.lst ys]) ∧ ys.length = i ∧ (∀ j y, ys[j]? = some y → Po j y) ∧ Pn (b + K * (ds.length - i)) c') (Rs := fun r => ∃ ys c', r = .ok (.ref (z :: c0 :: g).length) (z :: c' :: (g ++ [Cell.lst ys])) ∧ ys.length = ds.length ∧ (∀ i y, ys[i]? = some y → Po i y) ∧ Pn b c') ?_ ?_ ?_
    · rintro i d h' hd ⟨ys, c', rfl, l1, p1, n1⟩
      have hi' := (List.getElem?_eq_some_iff.mp hd).1
      obtain ⟨e1, g1, st⟩ := step i d hd
      have e0 : ds.length - i = (ds.length - (i + 1)) + 1 := by omega
      rw [e0, Nat.mul_succ, ← Nat.add_assoc] at n1
      obtain ⟨y, c2, e2, n2, p2⟩ := st _ c' (g ++ [Cell.lst ys]) n1
      refine ⟨e1, g1, ?_⟩
      show ∃ y h3 acc, m e1 _ = .ok y h3 ∧ _
      refine ⟨y, _, ys, e2, by simp, by omega, ys ++ [y], c2, by simp, by simp [l1], fun j z hz => ?_, n2⟩
      by_cases hj : j < ys.length
      · rw [List.getElem?_append_left hj] at hz
        exact p1 j z hz
      · have hj2 : j = ys.length := by
          have := (List.getElem?_eq_some_iff.mp hz).1
          simp at this
          omega
        subst hj2
        rw [List.getElem?_append_right (Nat.le_refl _), Nat.sub_self] at hz
        simp at hz
        subst hz
        rw [l1]
        exact p2
    · rintro h' ⟨ys, c', rfl, l1, p1, n1⟩
      rw [Nat.sub_self, Nat.mul_zero, Nat.add_zero] at n1
      exact ⟨ys, c', rfl, l1, p1, n1⟩
    · exact ⟨[], c0, by simp, rfl, by simp, by simpa using hp⟩
  obtain ⟨ys, c', e, l1, p1, n1⟩ := main
  refine ⟨ys, c', ?_, l1, p1, n1⟩
  rw [ap_mFz0, ap_mLc, hi]
  show fzR _ (lcM _ _ _ _ _ _ _ _ _) = _
  rw [e, fzR_at (xs := ys) (by simp) (Nat.le_refl _) (loL_of fun x hx => by
    obtain ⟨j, hj⟩ := List.mem_iff_getElem?.mp hx
    exact lo j x _ (p1 j x hj)) (by simp [lop b c' _ n1])]
  simp
/-! with the lengths as premises: for simp (disch := ..) -/
theorem dAdd_str {a b : List Nat} (l : a.length + b.length ≤ 10000000) : dAdd (.str a) (.str b) h = .ok (.str (a ++ b)) h := by rw [dAdd_str_if, if_pos l]
theorem dIAdd_str {a b : List Nat} (l : a.length + b.length ≤ 10000000) : dIAdd (.str a) (.str b) h = .ok (.str (a ++ b)) h := by rw [dIAdd_str_if, if_pos l]
theorem bLen_str {s : List Nat} (l : s.length ≤ 10000000) : bLen [.str s] h = .ok (.int (s.length : Nat)) h := by rw [bLen_str_if, if_pos l]
theorem sliceD_str {s : List Nat} {lo hi : Option Int} (l : s.length ≤ 10000000) : sliceD (.str s) lo hi h = .ok (.str (cutN s lo hi)) h := by rw [sliceD_str_if, if_pos l]
theorem iSeq_str {env : EV} {m : ME} {s : List Nat} (e : m env h = .ok (.str s) h') (l : s.length ≤ 10000000) : iSeq m env h = .ok (.st (s.map fun c => .str [c])) h' := by
  rw [ap_iSeq, e]
  rw [bind_ok]
  dsimp only
  rw [if_pos l]
end
theorem get_app {h l : IH} {k : Nat} : (h ++ l)[h.length + k]? = l[k]? := by
  rw [List.getElem?_append_right (by omega)]
  congr 1
  omega
theorem get_app0 {h l : IH} : (h ++ l)[h.length]? = l[0]? := by
  rw [List.getElem?_append_right (by omega)]
  congr 1
  omega
theorem set_app {h l : IH} {k : Nat} {c : Cell} : (h ++ l).set (h.length + k) c = h ++ l.set k c := by
  rw [List.set_append, if_neg (by omega)]
  congr 2
  omega
theorem set_app0 {h l : IH} {c : Cell} : (h ++ l).set h.length c = h ++ l.set 0 c := by
  rw [List.set_append, if_neg (by omega)]
  congr 2
  omega
theorem get_old {h l : IH} {j : Nat} {c : Cell} (e : h[j]? = some c) : (h ++ l)[j]? = some c := by
  rw [List.getElem?_append_left (List.getElem?_eq_some_iff.mp e).1]
  exact e
@[simp] theorem dIs_bl {neg : Bool} {a b : Bool} {h : IH} : dIsN neg (.bl a) (.bl b) h = .ok (.bl (if neg then !decide (a = b) else decide (a = b))) h := rfl
@[simp] theorem dIs_non {neg : Bool} {h : IH} : dIsN neg .non .non h = .ok (.bl (!neg)) h := rfl
@[simp] theorem isT_non {T : String} {h : IH} : isT T h .non = kitB "NoneType" T := rfl
@[simp] theorem isT_bl {T : String} {b : Bool} {h : IH} : isT T h (.bl b) = kitB "bool" T := rfl
@[simp] theorem isT_int {T : String} {b : Int} {h : IH} : isT T h (.int b) = kitB "int" T := rfl
@[simp] theorem isT_str {T : String} {b : List Nat} {h : IH} : isT T h (.str b) = kitB "str" T := rfl
@[simp] theorem isT_tup {T : String} {b : List D} {h : IH} : isT T h (.tup b) = kitB "tuple" T := rfl
theorem isT_lst {T : String} {n : Nat} {xs : List D} {h : IH} (e : h[n]? = some (.lst xs)) : isT T h (.ref n) = kitB "list" T := by
  unfold isT
  dsimp only
  rw [e]
theorem isT_dk {T : String} {n : Nat} {xs : List (DKey × D)} {h : IH} (e : h[n]? = some (.dk xs)) : isT T h (.ref n) = kitB "dict" T := by
  unfold isT
  dsimp only
  rw [e]
@[simp] theorem kit_NoneType_bool : kitB "NoneType" "bool" = some false := by decide +kernel
@[simp] theorem kit_NoneType_int : kitB "NoneType" "int" = some false := by decide +kernel
@[simp] theorem kit_NoneType_str : kitB "NoneType" "str" = some false := by decide +kernel
@[simp] theorem kit_NoneType_tuple : kitB "NoneType" "tuple" = some false := by decide +kernel
@[simp] theorem kit_NoneType_list : kitB "NoneType" "list" = some false := by decide +kernel
@[simp] theorem kit_NoneType_dict : kitB "NoneType" "dict" = some false := by decide +kernel
@[simp] theorem kit_bool_bool : kitB "bool" "bool" = some true := by decide +kernel
@[simp] theorem kit_bool_int : kitB "bool" "int" = some true := by decide +kernel
@[simp] theorem kit_bool_str : kitB "bool" "str" = some false := by decide +kernel
@[simp] theorem kit_bool_tuple : kitB "bool" "tuple" = some false := by decide +kernel
@[simp] theorem kit_bool_list : kitB "bool" "list" = some false := by decide +kernel
@[simp] theorem kit_bool_dict : kitB "bool" "dict" = some false := by decide +kernel
@[simp] theorem kit_int_bool : kitB "int" "bool" = some false := by decide +kernel
@[simp] theorem kit_int_int : kitB "int" "int" = some true := by decide +kernel
@[simp] theorem kit_int_str : kitB "int" "str" = some false := by decide +kernel
@[simp] theorem kit_int_tuple : kitB "int" "tuple" = some false := by decide +kernel
@[simp] theorem kit_int_list : kitB "int" "list" = some false := by decide +kernel
@[simp] theorem kit_int_dict : kitB "int" "dict" = some false := by decide +kernel
@[simp] theorem kit_str_bool : kitB "str" "bool" = some false := by decide +kernel
@[simp] theorem kit_str_int : kitB "str" "int" = some false := by decide +kernel
@[simp] theorem kit_str_str : kitB "str" "str" = some true := by decide +kernel
@[simp] theorem kit_str_tuple : kitB "str" "tuple" = some false := by decide +kernel
@[simp] theorem kit_str_list : kitB "str" "list" = some false := by decide +kernel
@[simp] theorem kit_str_dict : kitB "str" "dict" = some false := by decide +kernel
@[simp] theorem kit_tuple_bool : kitB "tuple" "bool" = some false := by decide +kernel
@[simp] theorem kit_tuple_int : kitB "tuple" "int" = some false := by decide +kernel
@[simp] theorem kit_tuple_str : kitB "tuple" "str" = some false := by decide +kernel
@[simp] theorem kit_tuple_tuple : kitB "tuple" "tuple" = some true := by decide +kernel
@[simp] theorem kit_tuple_list : kitB "tuple" "list" = some false := by decide +kernel
@[simp] theorem kit_tuple_dict : kitB "tuple" "dict" = some false := by decide +kernel
@[simp] theorem kit_list_bool : kitB "list" "bool" = some false := by decide +kernel
@[simp] theorem kit_list_int : kitB "list" "int" = some false := by decide +kernel
@[simp] theorem kit_list_str : kitB "list" "str" = some false := by decide +kernel
@[simp] theorem kit_list_tuple : kitB "list" "tuple" = some false := by decide +kernel
@[simp] theorem kit_list_list : kitB "list" "list" = some true := by decide +kernel
@[simp] theorem kit_list_dict : kitB "list" "dict" = some false := by decide +kernel
@[simp] theorem kit_dict_bool : kitB "dict" "bool" = some false := by decide +kernel
@[simp] theorem kit_dict_int : kitB "dict" "int" = some false := by decide +kernel
@[simp] theorem kit_dict_str : kitB "dict" "str" = some false := by decide +kernel
@[simp] theorem kit_dict_tuple : kitB "dict" "tuple" = some false := by decide +kernel
@[simp] theorem kit_dict_list : kitB "dict" "list" = some false := by decide +kernel
@[simp] theorem kit_dict_dict : kitB "dict" "dict" = some true := by decide +kernel
/-! == of data without truths -/
def D.nb : Nat → D → Bool
  | 0, _ => false
  | k + 1, d => match d with
    | .non => true
    | .int _ => true
    | .str _ => true
    | .tup l => l.all (D.nb k)
    | .fl l => l.all (D.nb k)
    | _ => false
theorem nb_py {h : IH} : ∀ {k : Nat} {d : D}, d.nb k = true → ∃ p, D.py h k d = some p := by
  intro k
  induction k with
  | zero => intro d e; simp [D.nb] at e
  | succ k ih =>
    have all : ∀ l : List D, l.all (D.nb k) = true → ∃ ps, allM (D.py h k) l = some ps := by
      intro l
      induction l with
      | nil => exact fun _ => ⟨[], rfl⟩
      | cons d l il =>
        intro e
        simp only [List.all_cons, Bool.and_eq_true] at e
        obtain ⟨p, hp⟩ := ih e.1
        obtain ⟨ps, hps⟩ := il e.2
        exact ⟨p :: ps, by unfold allM; rw [hp, hps]⟩
    intro d e
    cases d with
    | non => exact ⟨_, rfl⟩
    | int i => exact ⟨_, rfl⟩
    | str s => exact ⟨_, rfl⟩
    | tup l =>
      obtain ⟨ps, hps⟩ := all l (by simpa [D.nb] using e)
      exact ⟨.tuple ps, by simp [D.py, hps]⟩
    | fl l =>
      obtain ⟨ps, hps⟩ := all l (by simpa [D.nb] using e)
      exact ⟨.list ps, by simp [D.py, hps]⟩
    | _ => simp [D.nb] at e
theorem nb_eqv {h : IH} : ∀ {k : Nat} {x y : D} {p q : PyData}, x.nb k = true → y.nb k = true → D.py h k x = some p → D.py h k y = some q → (PyData.eqv p q = true ↔ x = y) := by
  intro k
  induction k with
  | zero => intro x y p q e; simp [D.nb] at e
  | succ k ih =>
    have all : ∀ (l m : List D) (ps qs : List PyData), l.all (D.nb k) = true → m.all (D.nb k) = true → allM (D.py h k) l = some ps → allM (D.py h k) m = some qs → (PyData.eqvAll ps qs = true ↔ l = m) := by
      intro l
      induction l with
      | nil =>
        intro m ps qs _ _ e1 e2
        simp only [allM, Option.some.injEq] at e1
        subst e1
        cases m with
        | nil => simp only [allM, Option.some.injEq] at e2; subst e2; simp [PyData.eqvAll]
        | cons d m => obtain ⟨a, as, _, _, rfl⟩ := allM_cons e2; simp [PyData.eqvAll]
      | cons d l il =>
        intro m ps qs a1 a2 e1 e2
        obtain ⟨p, ps', b1, b2, rfl⟩ := allM_cons e1
        simp only [List.all_cons, Bool.and_eq_true] at a1
        cases m with
        | nil => simp only [allM, Option.some.injEq] at e2; subst e2; simp [PyData.eqvAll]
        | cons d' m =>
          obtain ⟨q, qs', c1, c2, rfl⟩ := allM_cons e2
          simp only [List.all_cons, Bool.and_eq_true] at a2
          simp [PyData.eqvAll, ih a1.1 a2.1 b1 c1, il m ps' qs' a1.2 a2.2 b2 c2]
    intro x y p q nx ny ex ey
    cases x with
    | non => cases y with
      | non => simp [D.py] at ex ey; subst ex ey; simp [PyData.eqv]
      | int j => simp [D.py] at ex ey; subst ex ey; simp [PyData.eqv]
      | str t => simp [D.py] at ex ey; subst ex ey; simp [PyData.eqv]
      | tup m => simp only [D.py, Option.map_eq_some_iff] at ex ey; obtain ⟨qs, _, rfl⟩ := ey; simp at ex; subst ex; simp [PyData.eqv]
      | fl m => simp only [D.py, Option.map_eq_some_iff] at ex ey; obtain ⟨qs, _, rfl⟩ := ey; simp at ex; subst ex; simp [PyData.eqv]
      | _ => simp [D.nb] at ny
    | int i => cases y with
      | non => simp [D.py] at ex ey; subst ex ey; simp [PyData.eqv]
      | int j => simp [D.py] at ex ey; subst ex ey; simp [PyData.eqv]
      | str t => simp [D.py] at ex ey; subst ex ey; simp [PyData.eqv]
      | tup m => simp only [D.py, Option.map_eq_some_iff] at ex ey; obtain ⟨qs, _, rfl⟩ := ey; simp at ex; subst ex; simp [PyData.eqv]
      | fl m => simp only [D.py, Option.map_eq_some_iff] at ex ey; obtain ⟨qs, _, rfl⟩ := ey; simp at ex; subst ex; simp [PyData.eqv]
      | _ => simp [D.nb] at ny
    | str s => cases y with
      | non => simp [D.py] at ex ey; subst ex ey; simp [PyData.eqv]
      | int j => simp [D.py] at ex ey; subst ex ey; simp [PyData.eqv]
      | str t =>
        simp [D.py] at ex ey; subst ex ey
        rw [show PyData.eqv (.str (strV s)) (.str (strV t)) = (strV s == strV t) by simp [PyData.eqv], strV_eq]
        simp
      | tup m => simp only [D.py, Option.map_eq_some_iff] at ex ey; obtain ⟨qs, _, rfl⟩ := ey; simp at ex; subst ex; simp [PyData.eqv]
      | fl m => simp only [D.py, Option.map_eq_some_iff] at ex ey; obtain ⟨qs, _, rfl⟩ := ey; simp at ex; subst ex; simp [PyData.eqv]
      | _ => simp [D.nb] at ny
    | tup l =>
      simp only [D.py, Option.map_eq_some_iff] at ex
      obtain ⟨ps, e1, rfl⟩ := ex
      cases y with
      | non => simp [D.py] at ey; subst ey; simp [PyData.eqv]
      | int j => simp [D.py] at ey; subst ey; simp [PyData.eqv]
      | str t => simp [D.py] at ey; subst ey; simp [PyData.eqv]
      | tup m =>
        simp only [D.py, Option.map_eq_some_iff] at ey; obtain ⟨qs, e2, rfl⟩ := ey
        have := all l m ps qs (by simpa [D.nb] using nx) (by simpa [D.nb] using ny) e1 e2
        simp [PyData.eqv, this]
      | fl m => simp only [D.py, Option.map_eq_some_iff] at ey; obtain ⟨qs, _, rfl⟩ := ey; simp [PyData.eqv]
      | _ => simp [D.nb] at ny
    | fl l =>
      simp only [D.py, Option.map_eq_some_iff] at ex
      obtain ⟨ps, e1, rfl⟩ := ex
      cases y with
      | non => simp [D.py] at ey; subst ey; simp [PyData.eqv]
      | int j => simp [D.py] at ey; subst ey; simp [PyData.eqv]
      | str t => simp [D.py] at ey; subst ey; simp [PyData.eqv]
      | fl m =>
        simp only [D.py, Option.map_eq_some_iff] at ey; obtain ⟨qs, e2, rfl⟩ := ey
        have := all l m ps qs (by simpa [D.nb] using nx) (by simpa [D.nb] using ny) e1 e2
        simp [PyData.eqv, this]
      | tup m => simp only [D.py, Option.map_eq_some_iff] at ey; obtain ⟨qs, _, rfl⟩ := ey; simp [PyData.eqv]
      | _ => simp [D.nb] at ny
    | _ => simp [D.nb] at nx
open Classical in
theorem dEq_nb {neg : Bool} {h : IH} {x y : D} (nx : x.nb 50 = true) (ny : y.nb 50 = true) : dEq neg x y h = .ok (.bl (if neg then !decide (x = y) else decide (x = y))) h := by
  obtain ⟨p, hp⟩ := nb_py (h := h) nx
  obtain ⟨q, hq⟩ := nb_py (h := h) ny
  unfold dEq
  rw [hp, hq]
  dsimp only
  have : PyData.eqv p q = decide (x = y) := by
    rw [Bool.eq_iff_iff, nb_eqv nx ny hp hq]
    simp
  rw [this]
/-- a comprehension that is locked at once: each item by what is known of it -/
theorem lcF_ex {env : EV} {h : IH} {m : ME} {it : MI} {gg : MG} {ws : List Nat} {ds : List D} (Po : Nat → D → Prop) (hi : it env h = .ok (.st ds) h) (hl : ds.length ≤ 9000000)
    (step : ∀ i d, ds[i]? = some d → ∃ e1 y, gg d (wipeE env ws) = some e1 ∧ (∀ x, m e1 (h ++ [x]) = .ok y (h ++ [x])) ∧ D.lo h.length y = true ∧ Po i y) : ∃ ys, mFz (mLc it gg mYes m ws) env h = .ok (.fl ys) h ∧ ys.length = ds.length ∧ ∀ i y, ys[i]? = some y → Po i y := by
  let F : D → D := fun d => match gg d (wipeE env ws) with
    | some e1 => match m e1 (h ++ [Cell.lst []]) with
      | .ok y _ => y
      | _ => .non
    | none => .non
  have eF : ∀ i d, ds[i]? = some d → ∃ e1, gg d (wipeE env ws) = some e1 ∧ (∀ x, m e1 (h ++ [x]) = .ok (F d) (h ++ [x])) ∧ D.lo h.length (F d) = true ∧ Po i (F d) := fun i d hd => by
    obtain ⟨e1, y, g1, g2, g3, g4⟩ := step i d hd
    have : F d = y := by
      show (match gg d (wipeE env ws) with
        | some e1 => match m e1 (h ++ [Cell.lst []]) with
          | .ok y _ => y
          | _ => D.non
        | none => D.non) = y
      rw [g1]
      dsimp only
      rw [g2]
    rw [this]
    exact ⟨e1, g1, g2, g3, g4⟩
  refine ⟨ds.map F, lcF_map F hi hl (fun d hd => ?_) (fun d hd => ?_), by simp, fun i y hy => ?_⟩
  · obtain ⟨i, hi⟩ := List.mem_iff_getElem?.mp hd
    obtain ⟨_, _, _, g3, _⟩ := eF i d hi
    exact g3
  · obtain ⟨i, hi⟩ := List.mem_iff_getElem?.mp hd
    obtain ⟨e1, g1, g2, _⟩ := eF i d hi
    exact ⟨e1, g1, g2⟩
  · rw [List.getElem?_map] at hy
    cases q : ds[i]? with
    | none => rw [q] at hy; cases hy
    | some d =>
      rw [q] at hy
      cases hy
      obtain ⟨_, _, _, _, g4⟩ := eF i d q
      exact g4
/-- items of a list, each by what is known of it -/
theorem list_of {A B : Type} {f : A → B} {Po : Nat → A → Prop} : ∀ {ys : List B}, (∀ i y, ys[i]? = some y → ∃ a, y = f a ∧ Po i a) → ∃ as : List A, ys = as.map f ∧ ∀ i a, as[i]? = some a → Po i a
  | [], _ => ⟨[], rfl, by simp⟩
  | y :: ys, h => by
    obtain ⟨a, rfl, pa⟩ := h 0 y rfl
    obtain ⟨as, rfl, ps⟩ := list_of (Po := fun i => Po (i + 1)) (ys := ys) fun i z hz => h (i + 1) z (by simpa using hz)
    exact ⟨a :: as, rfl, fun i b hb => by
      cases i with
      | zero => simp at hb; subst hb; exact pa
      | succ i => exact ps i b (by simpa using hb)⟩
/-- of a number's item -/
def natP (p : Nat → Bool) : D → Bool
  | .int k => p k.toNat
  | _ => false
def natF (f : Nat → D) : D → D
  | .int k => f k.toNat
  | d => d
@[simp] theorem natP_int {p : Nat → Bool} {x : Nat} : natP p (.int (x : Nat)) = p x := rfl
@[simp] theorem natF_int {f : Nat → D} {x : Nat} : natF f (.int (x : Nat)) = f x := rfl
@[simp] theorem natP_nD {p : Nat → Bool} {x : Nat} : natP p (nD x) = p x := rfl
@[simp] theorem natF_nD {f : Nat → D} {x : Nat} : natF f (nD x) = f x := rfl
theorem natP_filter (ss : List Nat) (p : Nat → Bool) : (ss.map nD).filter (natP p) = (ss.filter p).map nD := by
  rw [List.filter_map]
  rfl
theorem natF_map (ss : List Nat) (f : Nat → D) : (ss.map nD).map (natF f) = ss.map f := by
  rw [List.map_map]
  rfl
/-- of a sign's item -/
def sgP (p : Nat → Bool) : D → Bool
  | .str [k] => p k
  | _ => false
def sgF (f : Nat → D) : D → D
  | .str [k] => f k
  | d => d
@[simp] theorem sgP_str {p : Nat → Bool} {x : Nat} : sgP p (.str [x]) = p x := rfl
@[simp] theorem sgF_str {f : Nat → D} {x : Nat} : sgF f (.str [x]) = f x := rfl
theorem sgP_filter (ss : List Nat) (p : Nat → Bool) : (sgD ss).filter (sgP p) = sgD (ss.filter p) := by
  unfold sgD
  rw [List.filter_map]
  rfl
theorem sgF_map (ss : List Nat) (f : Nat → D) : (sgD ss).map (sgF f) = ss.map f := by
  unfold sgD
  rw [List.map_map]
  rfl
theorem intsFrom_nD (n : Nat) : intsFrom 0 n = (List.range n).map nD := by simp [intsFrom, nD]
end NR

set_option Elab.async false
set_option linter.all false
set_option maxRecDepth 100000
set_option maxHeartbeats 4000000
/-! What is equal: plain trees up to the truths' numbers. -/
namespace NR
open PySem PySem.Spec PyProof.Rows L2
mutual
def D.nm : D → D
  | .bl b => .int (if b then 1 else 0)
  | .tup l => .tup (D.nmL l)
  | .fl l => .fl (D.nmL l)
  | d => d
def D.nmL : List D → List D
  | [] => []
  | d :: l => D.nm d :: D.nmL l
end
theorem nmL_map : ∀ l : List D, D.nmL l = l.map D.nm
  | [] => rfl
  | d :: l => by simp [D.nmL, nmL_map l]
@[simp] theorem nm_non : D.nm .non = .non := rfl
@[simp] theorem nm_int {i : Int} : D.nm (.int i) = .int i := rfl
@[simp] theorem nm_str {i : List Nat} : D.nm (.str i) = .str i := rfl
@[simp] theorem nm_bl {b : Bool} : D.nm (.bl b) = .int (if b then 1 else 0) := rfl
@[simp] theorem nm_tup {l : List D} : D.nm (.tup l) = .tup (l.map D.nm) := by rw [← nmL_map]; rfl
@[simp] theorem nm_fl {l : List D} : D.nm (.fl l) = .fl (l.map D.nm) := by rw [← nmL_map]; rfl
/-- a plain tree -/
def D.pl : Nat → D → Bool
  | 0, _ => false
  | k + 1, d => match d with
    | .non => true
    | .bl _ => true
    | .int _ => true
    | .str _ => true
    | .tup l => l.all (D.pl k)
    | .fl l => l.all (D.pl k)
    | _ => false
theorem pl_mono : ∀ {k : Nat} {d : D}, d.pl k = true → d.pl (k + 1) = true := by
  intro k
  induction k with
  | zero => intro d e; simp [D.pl] at e
  | succ k ih =>
    intro d e
    cases d with
    | tup l =>
      simp only [D.pl, List.all_eq_true] at e ⊢
      exact fun x hx => ih (e x hx)
    | fl l =>
      simp only [D.pl, List.all_eq_true] at e ⊢
      exact fun x hx => ih (e x hx)
    | non => rfl
    | bl b => rfl
    | int i => rfl
    | str s => rfl
    | _ => simp [D.pl] at e
theorem pl_le {j k : Nat} (l : j ≤ k) {d : D} (h : d.pl j = true) : d.pl k = true := by
  induction l with
  | refl => exact h
  | step _ ih => exact pl_mono ih
theorem allM_all {A : Type} {f : D → Option A} : ∀ {l : List D}, (∀ d ∈ l, ∃ a, f d = some a) → ∃ as, allM f l = some as
  | [], _ => ⟨[], rfl⟩
  | d :: l, h => by
    obtain ⟨a, ea⟩ := h d List.mem_cons_self
    obtain ⟨as, eas⟩ := allM_all fun x hx => h x (List.mem_cons_of_mem _ hx)
    exact ⟨a :: as, by unfold allM; rw [ea, eas]⟩
theorem pl_py {h : IH} : ∀ {k : Nat} {d : D}, d.pl k = true → ∃ p, D.py h k d = some p := by
  intro k
  induction k with
  | zero => intro d e; simp [D.pl] at e
  | succ k ih =>
    intro d e
    cases d with
    | non => exact ⟨_, rfl⟩
    | bl b => exact ⟨_, rfl⟩
    | int i => exact ⟨_, rfl⟩
    | str s => exact ⟨_, rfl⟩
    | tup l =>
      simp only [D.pl, List.all_eq_true] at e
      obtain ⟨ps, hps⟩ := allM_all fun d hd => ih (e d hd)
      exact ⟨.tuple ps, by simp [D.py, hps]⟩
    | fl l =>
      simp only [D.pl, List.all_eq_true] at e
      obtain ⟨ps, hps⟩ := allM_all fun d hd => ih (e d hd)
      exact ⟨.list ps, by simp [D.py, hps]⟩
    | _ => simp [D.pl] at e
theorem pl_eqv {h : IH} : ∀ {k k' : Nat} {x y : D} {p q : PyData}, x.pl k = true → y.pl k' = true → D.py h k x = some p → D.py h k' y = some q → (PyData.eqv p q = true ↔ x.nm = y.nm) := by
  intro k
  induction k with
  | zero => intro k' x y p q e; simp [D.pl] at e
  | succ k ih =>
    intro k'
    cases k' with
    | zero => intro x y p q _ e; simp [D.pl] at e
    | succ k' =>
    have all : ∀ (l m : List D) (ps qs : List PyData), l.all (D.pl k) = true → m.all (D.pl k') = true → allM (D.py h k) l = some ps → allM (D.py h k') m = some qs → (PyData.eqvAll ps qs = true ↔ l.map D.nm = m.map D.nm) := by
      intro l
      induction l with
      | nil =>
        intro m ps qs _ _ e1 e2
        simp only [allM, Option.some.injEq] at e1
        subst e1
        cases m with
        | nil => simp only [allM, Option.some.injEq] at e2; subst e2; simp [PyData.eqvAll]
        | cons d m => obtain ⟨a, as, _, _, rfl⟩ := allM_cons e2; simp [PyData.eqvAll]
      | cons d l il =>
        intro m ps qs a1 a2 e1 e2
        obtain ⟨p, ps', b1, b2, rfl⟩ := allM_cons e1
        simp only [List.all_cons, Bool.and_eq_true] at a1
        cases m with
        | nil => simp only [allM, Option.some.injEq] at e2; subst e2; simp [PyData.eqvAll]
        | cons d' m =>
          obtain ⟨q, qs', c1, c2, rfl⟩ := allM_cons e2
          simp only [List.all_cons, Bool.and_eq_true] at a2
          simp [PyData.eqvAll, ih a1.1 a2.1 b1 c1, il m ps' qs' a1.2 a2.2 b2 c2]
    intro x y p q nx ny ex ey
    have bi : ∀ (b : Bool) (j : Int), ((if b then (1 : Int) else 0) == j) = decide ((if b then (1 : Int) else 0) = j) := fun b j => by cases b <;> rfl
    cases x with
    | non => cases y with
      | non => simp [D.py] at ex ey; subst ex ey; simp [PyData.eqv]
      | bl j => simp [D.py] at ex ey; subst ex ey; simp [PyData.eqv]
      | int j => simp [D.py] at ex ey; subst ex ey; simp [PyData.eqv]
      | str t => simp [D.py] at ex ey; subst ex ey; simp [PyData.eqv]
      | tup m => simp only [D.py, Option.map_eq_some_iff] at ex ey; obtain ⟨qs, _, rfl⟩ := ey; simp at ex; subst ex; simp [PyData.eqv]
      | fl m => simp only [D.py, Option.map_eq_some_iff] at ex ey; obtain ⟨qs, _, rfl⟩ := ey; simp at ex; subst ex; simp [PyData.eqv]
      | _ => simp [D.pl] at ny
    | bl i => cases y with
      | non => simp [D.py] at ex ey; subst ex ey; simp [PyData.eqv]
      | bl j => simp [D.py] at ex ey; subst ex ey; cases i <;> cases j <;> simp [PyData.eqv]
      | int j => simp [D.py] at ex ey; subst ex ey; simp [PyData.eqv]
      | str t => simp [D.py] at ex ey; subst ex ey; simp [PyData.eqv]
      | tup m => simp only [D.py, Option.map_eq_some_iff] at ex ey; obtain ⟨qs, _, rfl⟩ := ey; simp at ex; subst ex; simp [PyData.eqv]
      | fl m => simp only [D.py, Option.map_eq_some_iff] at ex ey; obtain ⟨qs, _, rfl⟩ := ey; simp at ex; subst ex; simp [PyData.eqv]
      | _ => simp [D.pl] at ny
    | int i => cases y with
      | non => simp [D.py] at ex ey; subst ex ey; simp [PyData.eqv]
      | bl j => simp [D.py] at ex ey; subst ex ey; simp [PyData.eqv]
      | int j => simp [D.py] at ex ey; subst ex ey; simp [PyData.eqv]
      | str t => simp [D.py] at ex ey; subst ex ey; simp [PyData.eqv]
      | tup m => simp only [D.py, Option.map_eq_some_iff] at ex ey; obtain ⟨qs, _, rfl⟩ := ey; simp at ex; subst ex; simp [PyData.eqv]
      | fl m => simp only [D.py, Option.map_eq_some_iff] at ex ey; obtain ⟨qs, _, rfl⟩ := ey; simp at ex; subst ex; simp [PyData.eqv]
      | _ => simp [D.pl] at ny
    | str s => cases y with
      | non => simp [D.py] at ex ey; subst ex ey; simp [PyData.eqv]
      | bl j => simp [D.py] at ex ey; subst ex ey; simp [PyData.eqv]
      | int j => simp [D.py] at ex ey; subst ex ey; simp [PyData.eqv]
      | str t =>
        simp [D.py] at ex ey; subst ex ey
        rw [show PyData.eqv (.str (strV s)) (.str (strV t)) = (strV s == strV t) by simp [PyData.eqv], strV_eq]
        simp
      | tup m => simp only [D.py, Option.map_eq_some_iff] at ex ey; obtain ⟨qs, _, rfl⟩ := ey; simp at ex; subst ex; simp [PyData.eqv]
      | fl m => simp only [D.py, Option.map_eq_some_iff] at ex ey; obtain ⟨qs, _, rfl⟩ := ey; simp at ex; subst ex; simp [PyData.eqv]
      | _ => simp [D.pl] at ny
    | tup l =>
      simp only [D.py, Option.map_eq_some_iff] at ex
      obtain ⟨ps, e1, rfl⟩ := ex
      cases y with
      | non => simp [D.py] at ey; subst ey; simp [PyData.eqv]
      | bl j => simp [D.py] at ey; subst ey; simp [PyData.eqv]
      | int j => simp [D.py] at ey; subst ey; simp [PyData.eqv]
      | str t => simp [D.py] at ey; subst ey; simp [PyData.eqv]
      | tup m =>
        simp only [D.py, Option.map_eq_some_iff] at ey; obtain ⟨qs, e2, rfl⟩ := ey
        have := all l m ps qs (by simpa [D.pl] using nx) (by simpa [D.pl] using ny) e1 e2
        simp [PyData.eqv, this]
      | fl m => simp only [D.py, Option.map_eq_some_iff] at ey; obtain ⟨qs, _, rfl⟩ := ey; simp [PyData.eqv]
      | _ => simp [D.pl] at ny
    | fl l =>
      simp only [D.py, Option.map_eq_some_iff] at ex
      obtain ⟨ps, e1, rfl⟩ := ex
      cases y with
      | non => simp [D.py] at ey; subst ey; simp [PyData.eqv]
      | bl j => simp [D.py] at ey; subst ey; simp [PyData.eqv]
      | int j => simp [D.py] at ey; subst ey; simp [PyData.eqv]
      | str t => simp [D.py] at ey; subst ey; simp [PyData.eqv]
      | fl m =>
        simp only [D.py, Option.map_eq_some_iff] at ey; obtain ⟨qs, e2, rfl⟩ := ey
        have := all l m ps qs (by simpa [D.pl] using nx) (by simpa [D.pl] using ny) e1 e2
        simp [PyData.eqv, this]
      | tup m => simp only [D.py, Option.map_eq_some_iff] at ey; obtain ⟨qs, _, rfl⟩ := ey; simp [PyData.eqv]
      | _ => simp [D.pl] at ny
    | _ => simp [D.pl] at nx
open Classical in
theorem dEq_pl {neg : Bool} {h : IH} {x y : D} (nx : x.pl 50 = true) (ny : y.pl 50 = true) : dEq neg x y h = .ok (.bl (if neg then !decide (x.nm = y.nm) else decide (x.nm = y.nm))) h := by
  obtain ⟨p, hp⟩ := pl_py (h := h) nx
  obtain ⟨q, hq⟩ := pl_py (h := h) ny
  unfold dEq
  rw [hp, hq]
  dsimp only
  have : PyData.eqv p q = decide (x.nm = y.nm) := by
    rw [Bool.eq_iff_iff, pl_eqv nx ny hp hq]
    simp
  rw [this]
/-- a list in the heap is told as its items -/
theorem py_ref {h : IH} {n : Nat} {xs : List D} (e : h[n]? = some (.lst xs)) {k : Nat} : D.py h k (.ref n) = D.py h k (.fl xs) := by
  cases k with
  | zero => rfl
  | succ k =>
    show (match h[n]? with | some (.lst xs) => _ | some (.frz xs) => _ | _ => _) = _
    rw [e]
    rfl
theorem dEq_ref {neg : Bool} {h : IH} {n : Nat} {xs : List D} {y : D} (e : h[n]? = some (.lst xs)) : dEq neg (.ref n) y h = dEq neg (.fl xs) y h := by
  unfold dEq
  rw [py_ref e]
theorem dEq_ref2 {neg : Bool} {h : IH} {n : Nat} {xs : List D} {x : D} (e : h[n]? = some (.lst xs)) : dEq neg x (.ref n) h = dEq neg x (.fl xs) h := by
  unfold dEq
  rw [py_ref e]
open Classical in
theorem dIn_pl {neg : Bool} {h : IH} {x y : D} {ys : List D} (e : seqOf h y = some ys) (nx : x.pl 50 = true) (ny : ∀ d ∈ ys, D.pl 49 d = true) : dIn neg x y h = .ok (.bl (if neg then !decide (x.nm ∈ ys.map D.nm) else decide (x.nm ∈ ys.map D.nm))) h := by
  obtain ⟨p, hp⟩ := pl_py (h := h) nx
  have main : ∀ {ys : List D}, (∀ d ∈ ys, D.pl 49 d = true) → ∃ qs, allM (D.py h 49) ys = some qs ∧ (qs.any fun z => PyData.eqv z p) = decide (x.nm ∈ ys.map D.nm) := by
    intro ys
    induction ys with
    | nil => exact fun _ => ⟨[], rfl, by simp⟩
    | cons d ys ih =>
      intro hy
      obtain ⟨qs, e1, e2⟩ := ih fun z hz => hy z (List.mem_cons_of_mem _ hz)
      obtain ⟨q, hq⟩ := pl_py (h := h) (hy d List.mem_cons_self)
      refine ⟨q :: qs, by unfold allM; rw [hq, e1], ?_⟩
      rw [List.any_cons, e2, Bool.eq_iff_iff]
      simp [pl_eqv (hy d List.mem_cons_self) nx hq hp]
      simp [eq_comm]
  obtain ⟨qs, e1, e2⟩ := main ny
  have e3 : (seqOf h y).bind (allM (D.py h 49)) = some qs := by rw [e]; exact e1
  have : dIn neg x y h = match D.py h 50 x, (seqOf h y).bind (allM (D.py h 49)) with
    | some a, some bs => .ok (.bl (if neg then !(bs.any fun z => PyData.eqv z a) else bs.any fun z => PyData.eqv z a)) h
    | _, _ => .no := by
    unfold dIn
    split
    · simp [seqOf] at e
    · rfl
  rw [this, hp, e3]
  dsimp only
  rw [e2]
theorem bTupleX_ref {h : IH} {n : Nat} {xs : List D} (e : h[n]? = some (.lst xs)) : bTupleX [.ref n] h = .ok (.tup xs) h := by
  show bTuple [.ref n] h = _
  unfold bTuple
  dsimp only
  rw [lstOf_ref e]
@[simp] theorem pl_non {k : Nat} : D.pl (k + 1) .non = true := rfl
@[simp] theorem pl_int {k : Nat} {i : Int} : D.pl (k + 1) (.int i) = true := rfl
@[simp] theorem pl_bl {k : Nat} {i : Bool} : D.pl (k + 1) (.bl i) = true := rfl
@[simp] theorem pl_str {k : Nat} {i : List Nat} : D.pl (k + 1) (.str i) = true := rfl
theorem pl_fl {k : Nat} {l : List D} : D.pl (k + 1) (.fl l) = l.all (D.pl k) := rfl
theorem pl_tup {k : Nat} {l : List D} : D.pl (k + 1) (.tup l) = l.all (D.pl k) := rfl
theorem pl_all {k : Nat} {l : List D} (h : ∀ d ∈ l, D.pl k d = true) : l.all (D.pl k) = true := List.all_eq_true.mpr h
theorem pl_ints {k : Nat} {l : List Int} : (l.map D.int).all (D.pl (k + 1)) = true := pl_all fun d hd => by
  obtain ⟨x, _, rfl⟩ := List.mem_map.mp hd
  rfl
theorem dEq_self {d : D} {h : IH} {neg : Bool} (p : d.pl 50 = true) : dEq neg d d h = .ok (.bl (!neg)) h := by
  rw [dEq_pl p p]
  cases neg <;> simp
@[simp] theorem ap_mFz_dict0 {env : EV} {h : IH} : mFz (mDict []) env h = .ok (.fd [] []) h := by
  have e : mDict [] env h = .ok (.ref h.length) (h ++ [.dk []]) := by
    simp [mDict, mPr, R.bind, keyPs, dkAt]
  rw [ap_mFz0, e]
  unfold fzR
  simp
/-! what is known of a value -/
def D.kn : D → Bool
  | .ref _ => false
  | .exc _ => false
  | _ => true
def D.isI : D → Bool
  | .int _ => true
  | _ => false
def D.kn2 : D → Bool
  | .tup l => l.all D.kn
  | d => d.kn
theorem isT_int_kn {d : D} {h : IH} (k : d.kn = true) : isT "int" h d = some (d.isI || (match d with | .bl _ => true | _ => false)) := by
  cases d with
  | ref n => cases k
  | exc n => cases k
  | _ => simp [D.isI]
theorem isT_bool_kn {d : D} {h : IH} (k : d.kn = true) : isT "bool" h d = some (match d with | .bl _ => true | _ => false) := by
  cases d with
  | ref n => cases k
  | exc n => cases k
  | _ => simp
theorem isT_tuple_kn {d : D} {h : IH} (k : d.kn = true) : isT "tuple" h d = some (match d with | .tup _ => true | _ => false) := by
  cases d with
  | ref n => cases k
  | exc n => cases k
  | _ => simp
theorem sIx_neg {n d k : Nat} (h0 : 1 ≤ k) (h1 : k ≤ n) : HT.sIx n d (some (-(k : Int))) = n - k := by
  show (if -(k : Int) < 0 then (-(k : Int) + (n : Int)).toNat else min (-(k : Int)).toNat n) = _
  rw [if_pos (by omega)]
  omega
theorem cutD_neg {xs : List D} {k : Nat} (h0 : 1 ≤ k) (h1 : k ≤ xs.length) : cutD xs none (some (-(k : Int))) = xs.take (xs.length - k) := by
  show (xs.drop (HT.sIx xs.length 0 none)).take (HT.sIx xs.length xs.length (some (-(k : Int))) - HT.sIx xs.length 0 none) = _
  rw [sIx_neg h0 h1]
  simp [HT.sIx]
theorem cutN_neg {xs : List Nat} {k : Nat} (h0 : 1 ≤ k) (h1 : k ≤ xs.length) : cutN xs none (some (-(k : Int))) = xs.take (xs.length - k) := by
  show (xs.drop (HT.sIx xs.length 0 none)).take (HT.sIx xs.length xs.length (some (-(k : Int))) - HT.sIx xs.length 0 none) = _
  rw [sIx_neg h0 h1]
  simp [HT.sIx]
end NR

set_option Elab.async false
set_option linter.all false
set_option maxRecDepth 100000
set_option maxHeartbeats 1000000
/-! A for over what stands still, by its items. -/
namespace NR
open PySem PySem.Spec PyProof.Rows L2
def forL (g : MG) (b : MS) : List D → EV → IH → RS
  | [], env, h => .nx env h
  | d :: ds, env, h => match g d env with
    | none => .no
    | some e1 => match b e1 h with
      | .nx e2 h2 => forL g b ds e2 h2
      | .ct e2 h2 => forL g b ds e2 h2
      | .bk e2 h2 => .nx e2 h2
      | r => r
/-- what follows a turn -/
def RS.on (k : EV → IH → RS) : RS → RS
  | .nx e h => k e h
  | .ct e h => k e h
  | .bk e h => .nx e h
  | r => r
section
variable {g : MG} {b : MS} {env e1 : EV} {h h' : IH} {d : D} {ds : List D} {k : EV → IH → RS}
@[simp] theorem on_nx : (RS.nx env h).on k = k env h := rfl
@[simp] theorem on_ct : (RS.ct env h).on k = k env h := rfl
@[simp] theorem on_bk : (RS.bk env h).on k = .nx env h := rfl
@[simp] theorem on_rt : (RS.rt d h).on k = .rt d h := rfl
@[simp] theorem on_ex {c : Str} {x : XF} : (RS.ex c x env h).on k = .ex c x env h := rfl
@[simp] theorem forL_nil : forL g b [] env h = .nx env h := rfl
theorem forL_cons (e : g d env = some e1) : forL g b (d :: ds) env h = (b e1 h).on (forL g b ds) := by
  show (match g d env with
    | none => _
    | some e1 => _) = _
  rw [e]
  dsimp only
  cases b e1 h <;> rfl
theorem forM_forL : forM (.st ds) g b ((Src.st ds).many h' + 1) 0 env h = forL g b ds env h := by
  have go : ∀ (m i : Nat) (env : EV) (h : IH), i + m = ds.length + 1 → i ≤ ds.length → forM (.st ds) g b m i env h = forL g b (ds.drop i) env h := by
    intro m
    induction m with
    | zero => 
      intro i env h e l
      omega
    | succ m ih =>
      intro i env h e l
      unfold forM
      rw [if_pos (show (Src.st ds).ok h = true from rfl)]
      show (match ds[i]? with
        | none => _
        | some d => _) = _
      cases hd : ds[i]? with
      | none =>
        rw [List.drop_eq_nil_of_le (List.getElem?_eq_none_iff.mp hd)]
        rfl
      | some d =>
        obtain ⟨hi, hx⟩ := List.getElem?_eq_some_iff.mp hd
        rw [List.drop_eq_getElem_cons hi, hx]
        dsimp only [forL]
        cases g d env with
        | none => rfl
        | some e1 =>
          dsimp only
          cases b e1 h <;> first | rfl | exact ih (i + 1) _ _ (by omega) (by omega)
  exact go _ 0 env h (by show 0 + (ds.length + 1) = _; omega) (Nat.zero_le _)
theorem forL_app {as bs : List D} {env : EV} {h : IH} {e2 : EV} {h2 : IH} (e : forL g b as env h = .nx e2 h2) (nb : ∀ (i : Nat) (d : D) (env : EV) (h : IH) (e1 : EV), as[i]? = some d → g d env = some e1 → ∀ e2 h2, b e1 h ≠ .bk e2 h2) : forL g b (as ++ bs) env h = forL g b bs e2 h2 := by
  induction as generalizing env h with
  | nil => cases e; rfl
  | cons d as ih =>
    cases hg : g d env with
    | none => simp [forL, hg] at e
    | some e1 =>
      rw [List.cons_append, forL_cons hg]
      rw [forL_cons hg] at e
      have nb0 := nb 0 d env h e1 rfl hg
      have nb' : ∀ (i : Nat) (d : D) (env : EV) (h : IH) (e1 : EV), as[i]? = some d → g d env = some e1 → ∀ e2 h2, b e1 h ≠ .bk e2 h2 := fun i d env h e1 q => nb (i + 1) d env h e1 (by simpa using q)
      revert e nb0
      cases b e1 h with
      | nx e3 h3 => intro e _; exact ih e nb'
      | ct e3 h3 => intro e _; exact ih e nb'
      | bk e3 h3 => intro _ nb0; exact absurd rfl (nb0 e3 h3)
      | rt _ _ => intro e; cases e
      | ex _ _ _ _ => intro e; cases e
      | no => intro e; cases e
end
/-! ### dicts whose keys are numbers from nought -/
def lookN {A : Type} (d : List (Nat × A)) (k : Nat) : Option A := (d.find? fun p => decide (p.1 = k)).map (·.2)
def dkN {A : Type} (f : A → D) (d : List (Nat × A)) : List (DKey × D) := d.map fun p => (Sum.inl (p.1 : Int), f p.2)
theorem valKD_dkN {A : Type} {f : A → D} (k : Nat) : ∀ (d : List (Nat × A)), valKD (dkN f d) (Sum.inl (k : Int)) = (lookN d k).map f
  | [] => rfl
  | p :: d => by
    have ih := valKD_dkN (f := f) k d
    unfold valKD lookN at *
    unfold dkN at *
    rw [List.map_cons, List.find?_cons, List.find?_cons]
    by_cases e : p.1 = k
    · have : (Sum.inl (p.1 : Int) : DKey) = Sum.inl (k : Int) := by rw [e]
      simp [e]
    · have : ¬ ((Sum.inl (p.1 : Int) : DKey) = Sum.inl (k : Int)) := fun z => e (by injection z with z; omega)
      simp only [decide_eq_false this, decide_eq_false e]
      exact ih
theorem putKD_dkN {A : Type} {f : A → D} {k : Nat} {a : A} {d : List (Nat × A)} (e : lookN d k = none) : putKD (dkN f d) (Sum.inl (k : Int)) (f a) = dkN f (d ++ [(k, a)]) := by
  have h : ((dkN f d).any fun p => decide (p.1 = (Sum.inl (k : Int) : DKey))) = false := by
    rw [List.any_eq_false]
    intro p hp
    obtain ⟨q, hq, rfl⟩ := List.mem_map.mp hp
    simp only [decide_eq_true_eq]
    intro z
    injection z with z
    have : q.1 = k := by omega
    unfold lookN at e
    rw [Option.map_eq_none_iff, List.find?_eq_none] at e
    exact e q hq (by simpa using this)
  unfold putKD
  rw [h, if_neg Bool.false_ne_true]
  simp [dkN]
theorem lookN_none {A : Type} {d : List (Nat × A)} {k : Nat} : lookN d k = none ↔ k ∉ d.map (·.1) := by
  unfold lookN
  rw [Option.map_eq_none_iff, List.find?_eq_none]
  simp only [decide_eq_true_eq, List.mem_map, not_exists, not_and]
theorem lookN_some {A : Type} {d : List (Nat × A)} {k : Nat} {a : A} (e : lookN d k = some a) : (k, a) ∈ d := by
  unfold lookN at e
  rw [Option.map_eq_some_iff] at e
  obtain ⟨p, h1, h2⟩ := e
  have h3 := List.mem_of_find?_eq_some h1
  have h4 := List.find?_some h1
  simp only [decide_eq_true_eq] at h4
  subst h2
  subst h4
  exact h3
theorem lookN_app {A : Type} {d e : List (Nat × A)} {k : Nat} : lookN (d ++ e) k = match lookN d k with | some a => some a | none => lookN e k := by
  unfold lookN
  rw [List.find?_append]
  cases d.find? fun p => decide (p.1 = k) <;> rfl
@[simp] theorem dkN_len {A : Type} {f : A → D} {d : List (Nat × A)} : (dkN f d).length = d.length := by simp [dkN]
theorem dDIn_dk {A : Type} {f : A → D} {h : IH} {n k : Nat} {neg : Bool} {d : List (Nat × A)} (e : h[n]? = some (.dk (dkN f d))) : dDIn neg (.int (k : Nat)) (.ref n) h = .ok (.bl (if neg then (lookN d k).isNone else (lookN d k).isSome)) h := by
  unfold dDIn dGet?
  simp only [e, keyD?, Option.map_some, valKD_dkN, Option.isSome_map]
  cases lookN d k <;> rfl
theorem dDGet_dk {A : Type} {f : A → D} {h : IH} {n k : Nat} {d : List (Nat × A)} {a : A} (e : h[n]? = some (.dk (dkN f d))) (l : lookN d k = some a) : dDGet (.ref n) (.int (k : Nat)) h = .ok (f a) h := by
  unfold dDGet dGet?
  simp only [e, keyD?, Option.map_some, valKD_dkN, l]
theorem putDD_dk {A : Type} {f : A → D} {h : IH} {n k : Nat} {d : List (Nat × A)} {a : A} (e : h[n]? = some (.dk (dkN f d))) (l : lookN d k = none) (hl : d.length < 10000000) : putDD (.ref n) (.int (k : Nat)) (f a) h = some (h.set n (.dk (dkN f (d ++ [(k, a)])))) := by
  unfold putDD
  simp only [e, keyD?, dkN_len, if_pos hl, putKD_dkN l]
@[simp] theorem ap_msSetD {mo mi me : ME} {env : EV} {h : IH} : msSetD mo mi me env h = (me env h).bindS env fun v h1 => (mo env h1).bindS env fun o h2 => (mi env h2).bindS env fun i h3 => match putDD o i v h3 with
  | some h4 => .nx env h4
  | none => .no := rfl
@[simp] theorem ap_mDGet1 {mo mi : ME} {env : EV} {h : IH} : mDGet1 mo mi env h = (mo env h).bind fun x h1 => if isDD h1 x = true then (mi env h1).bind fun y h2 => dDGet1 x y h2 else .no := rfl
@[simp] theorem ap_mDictT {env : EV} {h : IH} : mDictT env h = .ok (.ref h.length) (h ++ [.dt []]) := rfl
theorem ap_mDict1 {mk mv : ME} {env : EV} {h : IH} {k v : D} {kd : DKey} (e1 : mk env (h ++ [.dk []]) = .ok k (h ++ [.dk []])) (e2 : mv env (h ++ [.dk []]) = .ok v (h ++ [.dk []])) (e3 : keyD? k = some kd) : mDict [(mk, mv)] env h = .ok (.ref h.length) (h ++ [.dk [(kd, v)]]) := by
  unfold mDict mPr
  rw [e1]
  simp only [bind_ok]
  rw [e2]
  simp [mPr, keyPs, e3, dkAt, putKD]
@[simp] theorem ap_iRange3 {ta : MA} {env : EV} {h : IH} : iRange3 ta env h = (ta env h).bind fun xs h1 => match xs with
  | [.int i, .int j, .int c] => if c = -1 ∧ -10000000 ≤ i ∧ i ≤ 10000000 ∧ -10000000 ≤ j ∧ j ≤ 10000000 then .ok (.st (intsDown i (i - j).toNat)) h1 else .no
  | _ => .no := rfl
/-- signs beside the rooms of a row -/
def zD (t row : List Nat) : List D := List.zipWith (fun x y : D => D.tup [x, y]) (t.map fun c => .str [c]) (row.map nD)
@[simp] theorem zD_len {t row : List Nat} : (zD t row).length = min t.length row.length := by simp [zD]
theorem zip_get {t row : List Nat} {i : Nat} {d : D} (e : (zD t row)[i]? = some d) : ∃ c s, t[i]? = some c ∧ row[i]? = some s ∧ d = .tup [.str [c], .int (s : Nat)] := by
  unfold zD at e
  rw [List.getElem?_zipWith] at e
  simp only [List.getElem?_map] at e
  cases q1 : t[i]? with
  | none => rw [q1] at e; cases e
  | some c =>
    cases q2 : row[i]? with
    | none => rw [q1, q2] at e; cases e
    | some s => rw [q1, q2] at e; cases e; exact ⟨c, s, rfl, rfl, rfl⟩
def zP (p : Nat × Nat) : D := .tup [.str [p.1], nD p.2]
theorem zD_eq : ∀ {t row : List Nat}, zD t row = (t.zip row).map zP
  | [], _ => rfl
  | _ :: _, [] => rfl
  | c :: t, s :: row => by
    have := zD_eq (t := t) (row := row)
    unfold zD at *
    simp [this, zP]
theorem intsFrom_succ {lo : Int} {n : Nat} : intsFrom lo (n + 1) = .int lo :: intsFrom (lo + 1) n := by
  unfold intsFrom
  rw [List.range_succ_eq_map, List.map_cons, List.map_map]
  congr 1
  · simp
  · refine List.map_congr_left fun i _ => ?_
    show D.int _ = D.int _
    congr 1
    simp only [Nat.succ_eq_add_one, Int.natCast_add, Int.natCast_one]
    omega
@[simp] theorem ap_msBreak {env : EV} {h : IH} : msBreak env h = .bk env h := rfl
@[simp] theorem ap_msCont {env : EV} {h : IH} : msCont env h = .ct env h := rfl
@[simp] theorem ap_msRetN {env : EV} {h : IH} : msRetN env h = .rt .non h := rfl
end NR

set_option Elab.async false
set_option linter.all false
set_option maxRecDepth 100000
set_option maxHeartbeats 4000000
namespace NR
open PySem PySem.Spec PyProof.Rows L2
/-! steps of a body, one by one -/
section
variable {s1 s2 : MS} {env env2 : EV} {h h2 h' : IH} {r : R D} {d : D} {it : MI} {gg : MG} {b : MS} {ds : List D} {q : RS}
theorem stN (e : s1 env h = .nx env2 h2) (k : (s2 env2 h2).fin = r) : (msCons s1 s2 env h).fin = r := by rw [ap_msCons, e, then_nx]; exact k
theorem stS (e : s1 env h = .nx env2 h2) (k : s2 env2 h2 = q) : msCons s1 s2 env h = q := by rw [ap_msCons, e, then_nx]; exact k
theorem stX (e : s1 env h = .nx env2 h2) (k : ∃ h', (s2 env2 h2).fin = .ok d h') : ∃ h', (msCons s1 s2 env h).fin = .ok d h' := by rw [ap_msCons, e, then_nx]; exact k
theorem stR (e : s1 env h = .rt d h') : (msCons s1 s2 env h).fin = .ok d h' := by rw [ap_msCons, e, then_rt]; rfl
theorem stRS (e : s1 env h = .rt d h') : msCons s1 s2 env h = .rt d h' := by rw [ap_msCons, e, then_rt]
theorem for_st (e : it env h = .ok (.st ds) h2) : msFor it gg b env h = forL gg b ds env h2 := by rw [ap_msFor, e, bindS_ok, forM_forL]
end
theorem fzD_penG {xs : List D} {z c c' : Cell} {g r : IH} (lo : ∀ k, D.loL k xs = true) (lc : ∀ k, Cell.lo k c' = true) : fzD (z :: c :: g) (z :: c' :: (g ++ r)) xs = .ok (.fl xs) (z :: c' :: g) := by
  unfold fzD newL
  rw [fzR_at (n := (z :: c' :: (g ++ r)).length) (xs := xs) (by simp) (by simp) (lo _) (by simp [lc])]
  simp
/-- drawing steps that leave cells behind the comprehension's list -/
theorem lcF_penG {env : EV} {m : ME} {it : MI} {gg : MG} {ws : List Nat} {ds : List D} {z cc c0 : Cell} {g : IH} {Pn : Nat → Cell → Prop} {b K : Nat} (lop : ∀ b c k, Pn b c → Cell.lo k c = true) (Po : Nat → D → Prop) (hi : it env (z :: cc :: g) = .ok (.st ds) (z :: c0 :: g)) (hl : ds.length ≤ 9000000)
    (hp : Pn (b + K * ds.length) c0) (lo : ∀ i y k, Po i y → D.lo k y = true)
    (step : ∀ i d, ds[i]? = some d → ∃ e1, gg d (wipeE env ws) = some e1 ∧ ∀ b c g, Pn (b + K) c → ∃ y c' r, m e1 (z :: c :: g) = .ok y (z :: c' :: (g ++ r)) ∧ Pn b c' ∧ Po i y) :
    ∃ ys c', mFz (mLc it gg mYes m ws) env (z :: cc :: g) = .ok (.fl ys) (z :: c' :: g) ∧ ys.length = ds.length ∧ (∀ i y, ys[i]? = some y → Po i y) ∧ Pn b c' := by
  have main : ∃ ys c' r, lcM (.st ds) gg mYes m (z :: c0 :: g).length ((Src.st ds).many (z :: c0 :: g) + 1) 0 (wipeE env ws) ((z :: c0 :: g) ++ [Cell.lst []]) = .ok (.ref (z :: c0 :: g).length) (z :: c' :: (g ++ Cell.lst ys :: r)) ∧ ys.length = ds.length ∧ (∀ i y, ys[i]? = some y → Po i y) ∧ Pn b c' := by
    refine lcM_inv (P := fun i h' => ∃ ys c' r, h' = z :: c' :: (g ++ Cell.lst ys :: r) ∧ ys.length = i ∧ (∀ j y, ys[j]? = some y → Po j y) ∧ Pn (b + K * (ds.length - i)) c') (Rs := fun o => ∃ ys c' r, o = .ok (.ref (z :: c0 :: g).length) (z :: c' :: (g ++ Cell.lst ys :: r)) ∧ ys.length = ds.length ∧ (∀ i y, ys[i]? = some y → Po i y) ∧ Pn b c') ?_ ?_ ?_
    · rintro i d h' hd ⟨ys, c', r, rfl, l1, p1, n1⟩
      have hi' := (List.getElem?_eq_some_iff.mp hd).1
      obtain ⟨e1, g1, st⟩ := step i d hd
      have e0 : ds.length - i = (ds.length - (i + 1)) + 1 := by omega
      rw [e0, Nat.mul_succ, ← Nat.add_assoc] at n1
      obtain ⟨y, c2, r2, e2, n2, p2⟩ := st _ c' (g ++ Cell.lst ys :: r) n1
      refine ⟨e1, g1, ?_⟩
      show ∃ y h3 acc, m e1 _ = .ok y h3 ∧ _
      refine ⟨y, _, ys, e2, by simp, by omega, ys ++ [y], c2, r ++ r2, by simp, by simp [l1], fun j z hz => ?_, n2⟩
      by_cases hj : j < ys.length
      · rw [List.getElem?_append_left hj] at hz
        exact p1 j z hz
      · have hj2 : j = ys.length := by
          have := (List.getElem?_eq_some_iff.mp hz).1
          simp at this
          omega
        subst hj2
        rw [List.getElem?_append_right (Nat.le_refl _), Nat.sub_self] at hz
        simp at hz
        subst hz
        rw [l1]
        exact p2
    · rintro h' ⟨ys, c', r, rfl, l1, p1, n1⟩
      rw [Nat.sub_self, Nat.mul_zero, Nat.add_zero] at n1
      exact ⟨ys, c', r, rfl, l1, p1, n1⟩
    · exact ⟨[], c0, [], by simp, rfl, by simp, by simpa using hp⟩
  obtain ⟨ys, c', r, e, l1, p1, n1⟩ := main
  refine ⟨ys, c', ?_, l1, p1, n1⟩
  rw [ap_mFz0, ap_mLc, hi]
  show fzR _ (lcM _ _ _ _ _ _ _ _ _) = _
  rw [e, fzR_at (xs := ys) (by simp) (by simp) (loL_of fun x hx => by
    obtain ⟨j, hj⟩ := List.mem_iff_getElem?.mp hx
    exact lo j x _ (p1 j x hj)) (by simp [lop b c' _ n1])]
  simp
theorem bMax1T_tup {h : IH} {ns : List Int} (l : 0 < ns.length) : bMax1T [.tup (ns.map D.int)] h = .ok (.int (imax ns)) h := by
  show (match (some (ns.map D.int)).bind (allM D.int?) with | some ns => if 0 < ns.length then R.ok (D.int (imax ns)) h else .no | none => .no) = _
  simp [l]
theorem bMax1T_fl {h : IH} {ns : List Int} (l : 0 < ns.length) : bMax1T [.fl (ns.map D.int)] h = .ok (.int (imax ns)) h := by
  show (match (some (ns.map D.int)).bind (allM D.int?) with | some ns => if 0 < ns.length then R.ok (D.int (imax ns)) h else .no | none => .no) = _
  simp [l]
theorem bMin1T_fl {h : IH} {ns : List Int} (l : 0 < ns.length) : bMin1T [.fl (ns.map D.int)] h = .ok (.int (imin ns)) h := by
  show (match (some (ns.map D.int)).bind (allM D.int?) with | some ns => if 0 < ns.length then R.ok (D.int (imin ns)) h else .no | none => .no) = _
  simp [l]
@[simp] theorem ap_mIsT {Ts : List String} {m : ME} {env : EV} {h : IH} : mIsT Ts m env h = (m env h).bind fun x h1 => match isTs h1 x Ts with | some b => .ok (.bl b) h1 | none => .no := rfl
@[simp] theorem ap_mChain3 {f g f3 : D → D → IH → R D} {a b c d : ME} {env : EV} {h : IH} : mChain3 f g f3 a b c d env h = (a env h).bind fun x h1 => (b env h1).bind fun y h2 => (f x y h2).bind fun z h3 => match z with
  | .bl true => (c env h3).bind fun w h4 => (g y w h4).bind fun u h5 => match u with
    | .bl true => (d env h5).bind fun t h6 => f3 w t h6
    | .bl false => .ok (.bl false) h5
    | _ => .no
  | .bl false => .ok (.bl false) h3
  | _ => .no := rfl
@[simp] theorem ap_iRevR1 {ta : MA} {env : EV} {h : IH} : iRevR1 ta env h = (ta env h).bind fun xs h1 => match xs with
  | [.int j] => if -10000000 ≤ j ∧ j ≤ 10000000 then .ok (.st (intsDown (j - 1) j.toNat)) h1 else .no
  | _ => .no := rfl
/-! what is locked within -/
/-- nothing within is to be locked -/
def Fz (m : Nat) (d : D) : Prop := ∀ (b k : Nat) (h : IH), m ≤ k → dzD b k h d = some (d, h)
theorem Fz.mono {m n : Nat} {d : D} (f : Fz m d) (l : m ≤ n) : Fz n d := fun b k h q => f b k h (by omega)
theorem fz1 {m : Nat} {d : D} (l : 1 ≤ m) (e : ∀ b k h, dzD b (k + 1) h d = some (d, h)) : Fz m d := fun b k h q => by
  cases k with
  | zero => omega
  | succ k => exact e b k h
theorem Fz_int {i : Int} : Fz 1 (.int i) := fz1 (by omega) fun _ _ _ => by simp [dzD]
theorem Fz_nD {i : Nat} : Fz 1 (nD i) := Fz_int
theorem Fz_str {i : List Nat} : Fz 1 (.str i) := fz1 (by omega) fun _ _ _ => by simp [dzD]
theorem Fz_bl {i : Bool} : Fz 1 (.bl i) := fz1 (by omega) fun _ _ _ => by simp [dzD]
theorem Fz_non : Fz 1 .non := fz1 (by omega) fun _ _ _ => by simp [dzD]
theorem Fz_fl {l : List D} : Fz 1 (.fl l) := fz1 (by omega) fun _ _ _ => by simp [dzD]
theorem dzL_fz {m : Nat} {b : Nat} : ∀ {l : List D} {k : Nat} {h : IH}, (∀ d ∈ l, Fz m d) → m + l.length + 1 ≤ k → dzL b k h l = some (l, h)
  | [], 0, h, _, q => by omega
  | [], k + 1, h, _, q => by unfold dzL; rfl
  | d :: l, 0, h, f, q => by omega
  | d :: l, k + 1, h, f, q => by
    unfold dzL
    rw [List.length_cons] at q
    rw [f d List.mem_cons_self b k h (by omega)]
    dsimp only
    rw [dzL_fz (fun x hx => f x (List.mem_cons_of_mem _ hx)) (by omega)]
theorem Fz_tup {m : Nat} {l : List D} (f : ∀ d ∈ l, Fz m d) : Fz (m + l.length + 2) (.tup l) := fun b k h q => by
  cases k with
  | zero => omega
  | succ k =>
    unfold dzD
    rw [dzL_fz f (by omega)]
/-- a new list -/
theorem dzD_new {m b k n : Nat} {h : IH} {xs : List D} (bn : b ≤ n) (e : h[n]? = some (.lst xs)) (f : ∀ d ∈ xs, Fz m d) (q : m + xs.length + 2 ≤ k) : dzD b k h (.ref n) = some (.fl xs, h.set n (.frz xs)) := by
  cases k with
  | zero => omega
  | succ k =>
    unfold dzD
    rw [if_pos bn, e]
    dsimp only
    rw [dzL_fz f (by omega)]
theorem dzR_of {h h' h2 : IH} {d d' : D} (e : dzD h.length 1000 h' d = some (d', h2)) (lo : D.lo h.length d' = true) (ok : okB h.length h h2) : dzR h (.ok d h') = .ok d' (h2.take h.length) := by
  unfold dzR
  dsimp only
  rw [e]
  dsimp only
  rw [if_pos ⟨lo, ok⟩]
/-- a tuple whose first item is a new list -/
theorem dz_tup1 {m : Nat} {h : IH} {xs l : List D} (f : ∀ d ∈ xs, Fz m d) (g : ∀ d ∈ l, Fz m d) (q : m + xs.length + l.length ≤ 900) (lo1 : D.loL h.length xs = true) (lo2 : D.loL h.length l = true) :
    dzR h (.ok (.tup (.ref h.length :: l)) (h ++ [.lst xs])) = .ok (.tup (.fl xs :: l)) h := by
  rw [dzR_of (d' := .tup (.fl xs :: l)) (h2 := h ++ [.frz xs]) ?_ (by simp [lo1, lo2]) okB_self]
  · simp
  · unfold dzD
    have e : dzL h.length 999 (h ++ [.lst xs]) (.ref h.length :: l) = some (.fl xs :: l, h ++ [.frz xs]) := by
      unfold dzL
      rw [dzD_new (k := 998) (Nat.le_refl _) get_app0 f (by omega), set_app0]
      dsimp only
      rw [dzL_fz (k := 998) g (by omega)]
      rfl
    rw [e]
theorem ap_mDz {m : ME} {env : EV} {h : IH} : mDz m env h = dzR h (m env h) := rfl
theorem dz_bind {A : Type} {h : IH} {r : R A} {k : A → IH → R D} : dzR h (r.bind k) = r.bind fun a h1 => dzR h (k a h1) := by cases r <;> rfl
@[simp] theorem ap_mDz_call {n : Nat} {fm : MF} {ta : MA} {env : EV} {h : IH} : mDz (mCall n fm ta) env h = (ta env h).bind fun ds h1 => dzR h (callC n fm ds h1) := by rw [ap_mDz, ap_mCall, dz_bind]
@[simp] theorem dz_ex {h h' : IH} {c : Str} {d : XF} : dzR h (.ex c d h') = .ex c d h' := rfl
@[simp] theorem dIs_tup_non {neg : Bool} {l : List D} {h : IH} : dIsN neg (.tup l) .non h = .ok (.bl neg) h := rfl
@[simp] theorem dIs_fl_non {neg : Bool} {l : List D} {h : IH} : dIsN neg (.fl l) .non h = .ok (.bl neg) h := rfl
@[simp] theorem dIs_str_non {neg : Bool} {l : List Nat} {h : IH} : dIsN neg (.str l) .non h = .ok (.bl neg) h := rfl
@[simp] theorem dIs_int_non {neg : Bool} {l : Int} {h : IH} : dIsN neg (.int l) .non h = .ok (.bl neg) h := rfl
@[simp] theorem dIs_bl_non {neg : Bool} {l : Bool} {h : IH} : dIsN neg (.bl l) .non h = .ok (.bl neg) h := rfl
@[simp] theorem dIs_ref_non {neg : Bool} {l : Nat} {h : IH} : dIsN neg (.ref l) .non h = .ok (.bl neg) h := rfl
theorem dIx_last {h : IH} {o : D} {xs : List D} {d : D} (hs : seqOf h o = some xs) (e : xs[xs.length - 1]? = some d) : dIx o (.int (-1)) h = .ok d h := by
  have hi := (List.getElem?_eq_some_iff.mp e).1
  show getD' _ _ _ = _
  unfold getD'
  cases o with
  | str s => simp [seqOf] at hs
  | _ =>
    dsimp only
    rw [hs]
    have : ixN xs.length (-1) = some (xs.length - 1) := by
      unfold ixN
      rw [if_neg (by omega), if_pos (by omega)]
      congr 1
      omega
    dsimp only [Option.bind]
    rw [this]
    dsimp only [Option.bind]
    rw [e]
/-! sources that are read of the heap -/
theorem forM_src {src : Src} {ds : List D} {g : MG} {b : MS} (P : IH → Prop) (hs : ∀ h, P h → src.ok h = true ∧ ∀ i, src.get h i = ds[i]?) (keep : ∀ e1 h, P h → ∀ e2 h2, (b e1 h = .nx e2 h2 ∨ b e1 h = .ct e2 h2) → P h2) :
    ∀ (m i : Nat) (env : EV) (h : IH), P h → ds.length < m + i → i ≤ ds.length → forM src g b m i env h = forL g b (ds.drop i) env h
  | 0, i, env, h, _, l, l2 => by omega
  | m + 1, i, env, h, hp, l, l2 => by
    obtain ⟨o, ge⟩ := hs h hp
    unfold forM
    rw [if_pos o, ge i]
    cases hd : ds[i]? with
    | none =>
      have := List.getElem?_eq_none_iff.mp hd
      rw [List.drop_eq_nil_of_le this]
      rfl
    | some d =>
      have hi := (List.getElem?_eq_some_iff.mp hd).1
      have ed : ds[i] = d := (List.getElem?_eq_some_iff.mp hd).2
      rw [List.drop_eq_getElem_cons hi, ed]
      dsimp only
      cases hg : g d env with
      | none => unfold forL; rw [hg]
      | some e1 =>
        dsimp only
        rw [forL_cons hg]
        have kp := keep e1 h hp
        cases hb : b e1 h with
        | nx e2 h2 => exact forM_src P hs keep m (i + 1) e2 h2 (kp e2 h2 (.inl hb)) (by omega) hi
        | ct e2 h2 => exact forM_src P hs keep m (i + 1) e2 h2 (kp e2 h2 (.inr hb)) (by omega) hi
        | bk e2 h2 => rfl
        | rt d2 h2 => rfl
        | ex c d2 e2 h2 => rfl
        | no => rfl
/-- a for whose turns leave the heap as it is -/
theorem for_src {it : MI} {gg : MG} {b : MS} {env : EV} {h h2 : IH} {src : Src} {ds : List D} (e : it env h = .ok src h2) (o : src.ok h2 = true) (ge : ∀ i, src.get h2 i = ds[i]?) (mn : src.many h2 = ds.length) (keep : ∀ e1 e2 h3, (b e1 h2 = .nx e2 h3 ∨ b e1 h2 = .ct e2 h3) → h3 = h2) : msFor it gg b env h = forL gg b ds env h2 := by
  rw [ap_msFor, e, bindS_ok, mn, forM_src (fun h => h = h2) (fun h x => by subst x; exact ⟨o, ge⟩) (fun e1 h x e2 h3 hb => by subst x; exact keep e1 e2 h3 hb) _ 0 env h2 rfl (by omega) (by omega), List.drop_zero]
/-- a zip of lists as they stand -/
theorem iZip_q {ta : MA} {env : EV} {h h2 : IH} {a b : D} {l l' : List D} (e : ta env h = .ok [a, b] h2) (ea : qOf h2 a = some l) (eb : qOf h2 b = some l') : ∃ src, iZip ta env h = .ok src h2 ∧ src.ok h2 = true ∧ (∀ i, src.get h2 i = (List.zipWith (fun x y : D => D.tup [x, y]) l l')[i]?) ∧ src.many h2 = (List.zipWith (fun x y : D => D.tup [x, y]) l l').length := by
  have ez : zipQ a b (min l.length l'.length) h2 = some (List.zipWith (fun x y : D => D.tup [x, y]) l l') := by
    unfold zipQ
    rw [ea, eb]
    dsimp only
    rw [if_pos rfl]
  unfold iZip
  rw [e, bind_ok]
  dsimp only
  have dy : ∃ src, (R.ok (Src.dy (zipQ a b (min l.length l'.length))) h2 : R Src) = .ok src h2 ∧ src.ok h2 = true ∧ (∀ i, src.get h2 i = (List.zipWith (fun x y : D => D.tup [x, y]) l l')[i]?) ∧ src.many h2 = (List.zipWith (fun x y : D => D.tup [x, y]) l l').length :=
    ⟨_, rfl, by show (zipQ a b (min l.length l'.length) h2).isSome = true; rw [ez]; rfl, fun i => by show (zipQ a b (min l.length l'.length) h2).bind _ = _; rw [ez]; rfl, by show ((zipQ a b (min l.length l'.length) h2).getD []).length = _; rw [ez]; rfl⟩
  cases sa : stOf a with
  | none => dsimp only; rw [ea, eb]; exact dy
  | some m =>
    cases sb : stOf b with
    | none => dsimp only; rw [ea, eb]; exact dy
    | some m' =>
      have e1 : m = l := by
        cases a <;> simp [stOf] at sa <;> simp [qOf, stOf] at ea <;> rw [← sa, ← ea]
      have e2 : m' = l' := by
        cases b <;> simp [stOf] at sb <;> simp [qOf, stOf] at eb <;> rw [← sb, ← eb]
      subst e1 e2
      exact ⟨_, rfl, rfl, fun i => rfl, rfl⟩
theorem qOf_ref {h : IH} {n : Nat} {xs : List D} (e : h[n]? = some (.lst xs)) : qOf h (.ref n) = some xs := lstOf_ref e
@[simp] theorem qOf_fl {h : IH} {xs : List D} : qOf h (.fl xs) = some xs := rfl
@[simp] theorem qOf_tup {h : IH} {xs : List D} : qOf h (.tup xs) = some xs := rfl
end NR

set_option Elab.async false
set_option linter.all false
set_option maxRecDepth 100000
set_option maxHeartbeats 4000000
namespace NR
open PySem PySem.Spec PyProof.Rows L2
/-! ### a hand's cell -/
def HC (cs : List Int) (a g s c : Int) : Cell := .lst [.fl (cs.map D.int), .int a, .int g, .int s, .int c]
/-- b draws can still be made -/
def Pn (b : Nat) (x : Cell) : Prop := ∃ (cs : List Int) (a g s c : Int), x = HC cs a g s c ∧ cs.length ≤ 63 ∧ 0 ≤ a ∧ 0 ≤ g ∧ 0 ≤ s ∧ s < 2147483647 ∧ 0 ≤ c ∧ c + b ≤ 1000000000000
theorem Pn.mono {b b' : Nat} {c : Cell} (h : Pn b c) (l : b' ≤ b) : Pn b' c := by
  obtain ⟨cs, a, g, s, c, h1, h2, h3, h4, h5, h6, h7, h8⟩ := h
  exact ⟨cs, a, g, s, c, h1, h2, h3, h4, h5, h6, h7, by omega⟩
theorem Pn.lo {b : Nat} {c : Cell} (h : Pn b c) (k : Nat) : Cell.lo k c = true := by
  obtain ⟨cs, a, g, s, c, rfl, _⟩ := h
  simp [HC]
theorem Pn_lo : ∀ (b : Nat) (c : Cell) (k : Nat), Pn b c → Cell.lo k c = true := fun _ _ k h => h.lo k
section
variable {z : Cell} {t : IH} {ns : List Int} {a g s c v : Int}
theorem hc0 : dIx (.ref 1) (.int 0) (z :: HC ns a g s c :: t) = .ok (.fl (ns.map D.int)) (z :: HC ns a g s c :: t) := dIx_ref (n := 1) (xs := [.fl (ns.map D.int), .int a, .int g, .int s, .int c]) rfl (by omega) rfl
theorem hc1 : dIx (.ref 1) (.int 1) (z :: HC ns a g s c :: t) = .ok (.int a) (z :: HC ns a g s c :: t) := dIx_ref (n := 1) (xs := [.fl (ns.map D.int), .int a, .int g, .int s, .int c]) rfl (by omega) rfl
theorem hc2 : dIx (.ref 1) (.int 2) (z :: HC ns a g s c :: t) = .ok (.int g) (z :: HC ns a g s c :: t) := dIx_ref (n := 1) (xs := [.fl (ns.map D.int), .int a, .int g, .int s, .int c]) rfl (by omega) rfl
theorem hc3 : dIx (.ref 1) (.int 3) (z :: HC ns a g s c :: t) = .ok (.int s) (z :: HC ns a g s c :: t) := dIx_ref (n := 1) (xs := [.fl (ns.map D.int), .int a, .int g, .int s, .int c]) rfl (by omega) rfl
theorem hc4 : dIx (.ref 1) (.int 4) (z :: HC ns a g s c :: t) = .ok (.int c) (z :: HC ns a g s c :: t) := dIx_ref (n := 1) (xs := [.fl (ns.map D.int), .int a, .int g, .int s, .int c]) rfl (by omega) rfl
theorem hg1 : getL (.ref 1) (.int 1) (z :: HC ns a g s c :: t) = some (.int a) := getL_ref (n := 1) (xs := [.fl (ns.map D.int), .int a, .int g, .int s, .int c]) rfl (by omega) rfl
theorem hg4 : getL (.ref 1) (.int 4) (z :: HC ns a g s c :: t) = some (.int c) := getL_ref (n := 1) (xs := [.fl (ns.map D.int), .int a, .int g, .int s, .int c]) rfl (by omega) rfl
theorem hp1 : putD (.ref 1) (.int 1) (.int v) (z :: HC ns a g s c :: t) = some (z :: HC ns v g s c :: t) := putD_ref (n := 1) (xs := [.fl (ns.map D.int), .int a, .int g, .int s, .int c]) rfl (by omega) (by simp)
theorem hp2 : putD (.ref 1) (.int 2) (.int v) (z :: HC ns a g s c :: t) = some (z :: HC ns a v s c :: t) := putD_ref (n := 1) (xs := [.fl (ns.map D.int), .int a, .int g, .int s, .int c]) rfl (by omega) (by simp)
theorem hp3 : putD (.ref 1) (.int 3) (.int v) (z :: HC ns a g s c :: t) = some (z :: HC ns a g v c :: t) := putD_ref (n := 1) (xs := [.fl (ns.map D.int), .int a, .int g, .int s, .int c]) rfl (by omega) (by simp)
theorem hp4 : putD (.ref 1) (.int 4) (.int v) (z :: HC ns a g s c :: t) = some (z :: HC ns a g s v :: t) := putD_ref (n := 1) (xs := [.fl (ns.map D.int), .int a, .int g, .int s, .int c]) rfl (by omega) (by simp)
end
theorem draw_call {b : Nat} {z x : Cell} {t : IH} {m : Int} (h : Pn (b + 1) x) (h1 : 1 ≤ m) (h2 : m ≤ 10000000) :
    ∃ (u : Nat) (x' : Cell), callC 2 m__law_take [.ref 1, .int m] (z :: x :: t) = .ok (.int (u : Nat)) (z :: x' :: t) ∧ (u : Int) < m ∧ Pn b x' := by
  obtain ⟨ns, a, g, s, c, rfl, nl, a0, g0, s0, s1, c0, c1⟩ := h
  suffices key : ∃ (u a' g' s' c' : Int), m__law_take [.ref 1, .int m] (z :: HC ns a g s c :: t) = .ok (.int u) (z :: HC ns a' g' s' c' :: t) ∧ 0 ≤ u ∧ u < m ∧ 0 ≤ a' ∧ 0 ≤ g' ∧ 0 ≤ s' ∧ s' < 2147483647 ∧ 0 ≤ c' ∧ c' ≤ c + 1 by
    obtain ⟨u, a', g', s', c', e, u0, u1, q1, q2, q3, q4, q5, q6⟩ := key
    exact ⟨u.toNat, _, callC_len rfl (by rw [e, Int.toNat_of_nonneg u0]) (by simp), by omega, ns, a', g', s', c', rfl, nl, q1, q2, q3, q4, q5, by omega⟩
  unfold m__law_take
  by_cases hm : m < 2
  · exact ⟨0, a, g, s, c, by simp [hm], by omega, by omega, a0, g0, s0, s1, c0, by omega⟩
  · have part : ∃ (v2 : Option D) (a' g1 s' : Int), msIf (mAnd (mTb (mOp (dEq false) (mOp dIx (mVar 0) (mC (.int 2))) (mC (.int 0)))) (mTb (mOp dLt (mOp dIx (mVar 0) (mC (.int 1))) (mB bLen (mCons (mOp dIx (mVar 0) (mC (.int 0))) (mNil)))))) (msCons (msSet 2 (mOp dIx (mOp dIx (mVar 0) (mC (.int 0))) (mOp dIx (mVar 0) (mC (.int 1)))))
        (msCons (msAugI dIAdd (mVar 0) (mC (.int 1)) (mC (.int 1)))
        (msCons (msSetI (mVar 0) (mC (.int 3)) (mOp dMod (mOp dAdd (mOp dMul (mOp dIx (mVar 0) (mC (.int 3))) (mC (.int 48271))) (mVar 2)) (mC (.int 2147483647))))
        (msIf (mTb (mOp dGe (mB bAbs (mCons (mVar 2) (mNil))) (mOp dPow (mC (.int 10)) (mC (.int 18))))) (msSetI (mVar 0) (mC (.int 2)) (mB bAbs (mCons (mVar 2) (mNil)))) (msNil))))) (msNil) [some (.ref 1), some (.int m), none, none] (z :: HC ns a g s c :: t) = .nx [some (.ref 1), some (.int m), v2, none] (z :: HC ns a' g1 s' c :: t) ∧ 0 ≤ a' ∧ 0 ≤ g1 ∧ 0 ≤ s' ∧ s' < 2147483647 := by
      by_cases b1 : g = 0 ∧ a < ns.length
      · obtain ⟨b1, b2⟩ := b1
        have hx : (ns.map D.int)[a.toNat]? = some (.int (ns[a.toNat]'(by omega))) := by
          rw [List.getElem?_map, List.getElem?_eq_getElem (by omega)]
          rfl
        generalize ns[a.toNat]'(by omega) = x at hx
        have ex : ∀ h : IH, dIx (.fl (ns.map D.int)) (.int a) h = .ok (.int x) h := fun h => dIx_seq (xs := ns.map D.int) rfl a0 hx
        subst b1
        by_cases b3 : 10 ^ 18 ≤ (if x < 0 then -x else x)
        · refine ⟨some (.int x), a + 1, if x < 0 then -x else x, (s * 48271 + x) % 2147483647, ?_, by omega, by omega, by omega, by omega⟩
          simp [hc0, hc1, hc2, ex, b2, hg1, hp1, hc3, hp3, hp2, cMul, cMod, cPow]
          simp at b3
          intro q
          exact absurd q (by omega)
        · refine ⟨some (.int x), a + 1, 0, (s * 48271 + x) % 2147483647, ?_, by omega, by omega, by omega, by omega⟩
          simp [hc0, hc1, hc2, ex, b2, hg1, hp1, hc3, hp3, hp2, cMul, cMod, cPow]
          simp at b3
          intro q
          exact absurd q (by omega)
      · refine ⟨none, a, g, s, ?_, a0, g0, s0, s1⟩
        by_cases b2 : g = 0
        · have b3 : ¬ a < ns.length := fun z => b1 ⟨b2, z⟩
          simp [hc0, hc1, hc2, b2, b3]
        · simp [hc0, hc1, hc2, b2]
    obtain ⟨v2, a', g1, s', pk, pa, pg, ps0, ps1⟩ := part
    by_cases b : 0 < g1
    · refine ⟨g1 % m, a', g1 / m, s', c, ?_, Int.emod_nonneg _ (by omega), Int.emod_lt_of_pos _ (by omega), pa, Int.ediv_nonneg pg (by omega), ps0, ps1, c0, by omega⟩
      rw [ap_fnM]
      simp only [List.map_cons, List.map_nil, List.length_cons, List.length_nil, List.cons_append, List.nil_append, Nat.reduceAdd, Nat.reduceSub, List.replicate]
      refine stN (env2 := [some (.ref 1), some (.int m), none, none]) (h2 := z :: HC ns a g s c :: t) (by simp [hm]) ?_
      refine stN pk ?_
      simp [hc2, hp2, b, cMod, cDiv, show 0 < m by omega, show m < 18446744073709551616 by omega]
    · have g00 : g1 = 0 := by omega
      refine ⟨(s' + 7368787 * (c + 1)) ^ 5 % 2147483647 / 1009 % m, a', g1, s', c + 1, ?_, Int.emod_nonneg _ (by omega), Int.emod_lt_of_pos _ (by omega), pa, pg, ps0, ps1, by omega, by omega⟩
      rw [ap_fnM]
      simp only [List.map_cons, List.map_nil, List.length_cons, List.length_nil, List.cons_append, List.nil_append, Nat.reduceAdd, Nat.reduceSub, List.replicate]
      refine stN (env2 := [some (.ref 1), some (.int m), none, none]) (h2 := z :: HC ns a g s c :: t) (by simp [hm]) ?_
      refine stN pk ?_
      have hw : (s' + 7368787 * (c + 1)).natAbs < 18446744073709551616 := by omega
      simp [hc2, hg4, hp4, hc3, hc4, b, cMod, cDiv, cPow, cMul, hw, show 0 < m by omega, show m < 18446744073709551616 by omega]
theorem source_eq (ns : List Int) (hl : ns.length ≤ 63) : ∃ c, callC 1 m__law_hand [.ref 0] [.frz (ns.map D.int)] = .ok (.ref 1) [.frz (ns.map D.int), c] ∧ Pn 999999999999 c := by
  have e0 : cutD (ns.map D.int) none (some 63) = ns.map D.int := by
    rw [cutD_to (by omega), List.take_of_length_le (by simp; omega)]
  have e1 : sliceD (.ref 0) none (some 63) [.frz (ns.map D.int)] = newL [.frz (ns.map D.int)] (ns.map D.int) := by
    unfold sliceD
    simp [lstOf, e0, newL]
  have e2 : fzD [.frz (ns.map D.int)] [.frz (ns.map D.int)] (ns.map D.int) = .ok (.fl (ns.map D.int)) [.frz (ns.map D.int)] := fzD_same (by simp)
  have e3 : ∀ h : IH, bListX [.fl (ns.map D.int)] h = newL h (ns.map D.int) := fun h => by simp [bListX, newL, bList, seqOf]
  refine ⟨HC ns 0 0 7 0, callC_new rfl ?_ (by simp), ns, 0, 0, 7, 0, rfl, hl, by omega, by omega, by omega, by omega, by omega, by omega⟩
  unfold m__law_hand
  simp [e1, fz_newL, e2, e3, newL_bindS, HC]
end NR

set_option Elab.async false
set_option linter.all false
set_option maxRecDepth 100000
set_option maxHeartbeats 4000000
namespace NR
open PySem PySem.Spec PyProof.Rows L2
theorem intsFrom_get {lo : Int} {n i : Nat} {d : D} (h : (intsFrom lo n)[i]? = some d) : i < n ∧ d = .int (lo + (i : Nat)) := by
  rw [ints_get] at h
  split at h
  · rename_i hi
    cases h
    exact ⟨hi, rfl⟩
  · cases h
@[simp] theorem intsFrom_len {lo : Int} {n : Nat} : (intsFrom lo n).length = n := by simp [intsFrom]
/-- the slots of _law_rooms -/
theorem sgs_of {t : List Nat} : ∀ {ys : List D}, (∀ y ∈ ys, ∃ k, k ∈ t ∧ y = .str [k]) → ∃ s : List Nat, ys = sgD s ∧ ∀ k ∈ s, k ∈ t
  | [], _ => ⟨[], rfl, by simp⟩
  | y :: ys, h => by
    obtain ⟨k, hk, rfl⟩ := h y List.mem_cons_self
    obtain ⟨s, rfl, hs⟩ := sgs_of fun z hz => h z (List.mem_cons_of_mem _ hz)
    exact ⟨k :: s, rfl, by simpa using ⟨hk, hs⟩⟩
theorem join_sg {s : List Nat} {h : IH} (l : s.length ≤ 10000000) : fJoin (.str []) [.fl (sgD s)] h = .ok (.str s) h := by
  have e : sgD s = (s.map fun c => [c]).map D.str := by unfold sgD; rw [List.map_map]; rfl
  have f : (s.map fun c => [c]).flatten = s := by
    clear l e
    induction s with
    | nil => rfl
    | cons c s ih => simp [ih]
  unfold fJoin
  dsimp only
  rw [seqOf_fl, e]
  show (match allM D.str? ((s.map fun c => [c]).map D.str) with | some ys => _ | none => _) = _
  rw [allM_mkStrs]
  dsimp only
  rw [sum_lens, f, List.length_nil, Nat.mul_zero, Nat.add_zero, joinN_nil, f, if_pos l]
/-- .. whose steps draw: Pn b c says that the pen's cell c can draw b times -/
theorem lcF_penI {env : EV} {m : ME} {it : MI} {gg : MG} {ws : List Nat} {ds : List D} {z cc c0 : Cell} {g : IH} {Pn : Nat → Cell → Prop} {b K : Nat} (lop : ∀ b c k, Pn b c → Cell.lo k c = true) (Po : Nat → D → Prop) (hi : it env (z :: cc :: g) = .ok (.st ds) (z :: c0 :: g)) (hl : ds.length ≤ 9000000)
    (hp : Pn (b + K * ds.length) c0) (lo : ∀ i y k, Po i y → D.lo k y = true)
    (step : ∀ i d, ds[i]? = some d → ∃ e1, gg d (wipeE env ws) = some e1 ∧ ∀ b c g, Pn (b + K) c → ∃ y c', m e1 (z :: c :: g) = .ok y (z :: c' :: g) ∧ Pn b c' ∧ Po i y) :
    ∃ ys c', mFz (mLc it gg mYes m ws) env (z :: cc :: g) = .ok (.fl ys) (z :: c' :: g) ∧ ys.length = ds.length ∧ (∀ i y, ys[i]? = some y → Po i y) ∧ Pn b c' := by
  have main : ∃ ys c', lcM (.st ds) gg mYes m (z :: c0 :: g).length ((Src.st ds).many (z :: c0 :: g) + 1) 0 (wipeE env ws) ((z :: c0 :: g) ++ [Cell.lst []]) = .ok (.ref (z :: c0 :: g).length) (z :: c' :: (g ++ [Cell.lst ys])) ∧ ys.length = ds.length ∧ (∀ i y, ys[i]? = some y → Po i y) ∧ Pn b c' := by
    refine lcM_inv (P := fun i h' => ∃ ys c', h' = z :: c' :: (g ++ [Cell.lst ys]) ∧ ys.length = i ∧ (∀ j y, ys[j]? = some y → Po j y) ∧ Pn (b + K * (ds.length - i)) c') (Rs := fun r => ∃ ys c', r = .ok (.ref (z :: c0 :: g).length) (z :: c' :: (g ++ [Cell.lst ys])) ∧ ys.length = ds.length ∧ (∀ i y, ys[i]? = some y → Po i y) ∧ Pn b c') ?_ ?_ ?_
    · rintro i d h' hd ⟨ys, c', rfl, l1, p1, n1⟩
      have hi' := (List.getElem?_eq_some_iff.mp hd).1
      obtain ⟨e1, g1, st⟩ := step i d hd
      have e0 : ds.length - i = (ds.length - (i + 1)) + 1 := by omega
      rw [e0, Nat.mul_succ, ← Nat.add_assoc] at n1
      obtain ⟨y, c2, e2, n2, p2⟩ := st _ c' (g ++ [Cell.lst ys]) n1
      refine ⟨e1, g1, ?_⟩
      show ∃ y h3 acc, m e1 _ = .ok y h3 ∧ _
      refine ⟨y, _, ys, e2, by simp, by omega, ys ++ [y], c2, by simp, by simp [l1], fun j z hz => ?_, n2⟩
      by_cases hj : j < ys.length
      · rw [List.getElem?_append_left hj] at hz
        exact p1 j z hz
      · have hj2 : j = ys.length := by
          have := (List.getElem?_eq_some_iff.mp hz).1
          simp at this
          omega
        subst hj2
        rw [List.getElem?_append_right (Nat.le_refl _), Nat.sub_self] at hz
        simp at hz
        subst hz
        rw [l1]
        exact p2
    · rintro h' ⟨ys, c', rfl, l1, p1, n1⟩
      rw [Nat.sub_self, Nat.mul_zero, Nat.add_zero] at n1
      exact ⟨ys, c', rfl, l1, p1, n1⟩
    · exact ⟨[], c0, by simp, rfl, by simp, by simpa using hp⟩
  obtain ⟨ys, c', e, l1, p1, n1⟩ := main
  refine ⟨ys, c', ?_, l1, p1, n1⟩
  rw [ap_mFz0, ap_mLc, hi]
  show fzR _ (lcM _ _ _ _ _ _ _ _ _) = _
  rw [e, fzR_at (xs := ys) (by simp) (by simp) (loL_of fun x hx => by
    obtain ⟨j, hj⟩ := List.mem_iff_getElem?.mp hx
    exact lo j x _ (p1 j x hj)) (by simp [lop b c' _ n1])]
  simp
/-- a word that is drawn sign by sign, joined -/
theorem word_draw {env : EV} {it : MI} {k : Nat} {e : ME} {z cc c0 : Cell} {g : IH} {t : List Nat} {n b : Nat} (nl : n ≤ 100000) (hi : it env (z :: cc :: g) = .ok (.st (intsFrom 0 n)) (z :: c0 :: g)) (hp : Pn (b + n) c0)
    (step : ∀ d b c g, Pn (b + 1) c → ∃ s c', e ((wipeE env [k]).set k (some d)) (z :: c :: g) = .ok (.str [s]) (z :: c' :: g) ∧ Pn b c' ∧ s ∈ t) :
    ∃ s c', mFz (mLc it (gSet k) mYes e [k]) env (z :: cc :: g) = .ok (.fl (sgD s)) (z :: c' :: g) ∧ s.length = n ∧ (∀ x ∈ s, x ∈ t) ∧ Pn b c' ∧ ∀ h : IH, fJoin (.str []) [.fl (sgD s)] h = .ok (.str s) h := by
  obtain ⟨ys, c4, e4, yl, yp, p4⟩ := lcF_penI (Pn := Pn) (b := b) (K := 1) (z := z) (cc := cc) (c0 := c0) (g := g) (ds := intsFrom 0 n) (env := env) (it := it) (gg := gSet k) (ws := [k]) (m := e) Pn_lo
    (fun _ y => ∃ k, k ∈ t ∧ y = .str [k]) hi (by simp; omega) (hp.mono (by simp)) (by rintro _ y k ⟨x, _, rfl⟩; rfl) (fun j d _ => ⟨_, rfl, fun b c g hb => by
      obtain ⟨s, c', e1, e2, e3⟩ := step d b c g hb
      exact ⟨_, c', e1, e2, s, e3, rfl⟩⟩)
  obtain ⟨s, rfl, sb⟩ := sgs_of (t := t) fun y hy => by
    obtain ⟨j, hj⟩ := List.mem_iff_getElem?.mp hy
    exact yp j y hj
  have sl : s.length = n := by simpa [sgD] using yl
  exact ⟨s, c4, e4, sl, sb, p4, fun h => join_sg (by omega)⟩
end NR

set_option Elab.async false
set_option linter.all false
set_option maxRecDepth 100000
set_option maxHeartbeats 4000000
namespace NR
open PySem PySem.Spec PyProof.Rows L2
def allSigns : List Nat := [32, 33, 34, 35, 36, 38, 39, 40, 41, 42, 43, 44, 45, 46, 47, 48, 49, 50, 51, 52, 53, 54, 55, 56, 57, 58, 59, 60, 61, 62, 63, 64, 65, 66, 67, 68, 69, 70, 71, 72, 73, 74, 75, 76, 77, 78, 79, 80, 81, 82, 83, 84, 85, 86, 87, 88, 89, 90, 91, 92, 93, 94, 95, 96, 97, 98, 99, 100, 101, 102, 103, 104, 105, 106, 107, 108, 109, 110, 111, 112, 113, 114, 115, 116, 117, 118, 119, 120, 121, 122, 123, 124, 125, 126, 10]
theorem allSigns_nodup : allSigns.Nodup := by decide
theorem allSigns_len : allSigns.length = 95 := by decide
theorem signs_call (h : IH) : callC 0 m__law_signs [] h = .ok (.str allSigns) h := callC_same rfl (by unfold m__law_signs; simp [dAdd_str_if, allSigns])

structure Tgn (t : List Nat) : Prop where
  l1 : 1 ≤ t.length
  l2 : t.length ≤ 6
  nd : t.Nodup
  sub : ∀ c ∈ t, c ∈ allSigns
theorem erase_cut (l : List Nat) (i : Nat) : l.take i ++ l.drop (i + 1) = l.eraseIdx i := (List.eraseIdx_eq_take_drop_succ l i).symm
theorem nodup_erase {l : List Nat} (h : l.Nodup) (i : Nat) : (l.eraseIdx i).Nodup := h.sublist (List.eraseIdx_sublist l i)
theorem not_mem_erase {l : List Nat} (h : l.Nodup) {i c : Nat} (e : l[i]? = some c) : c ∉ l.eraseIdx i := by
  intro hm
  rw [List.mem_eraseIdx_iff_getElem?] at hm
  obtain ⟨j, hj, ej⟩ := hm
  obtain ⟨h1, e1⟩ := List.getElem?_eq_some_iff.mp e
  obtain ⟨h2, e2⟩ := List.getElem?_eq_some_iff.mp ej
  have hp := List.pairwise_iff_getElem.mp h
  rcases Nat.lt_or_gt_of_ne hj with l1 | l1
  · exact hp j i h2 h1 l1 (e2.trans e1.symm)
  · exact hp i j h1 h2 l1 (e1.trans e2.symm)
end NR

set_option Elab.async false
set_option linter.all false
set_option maxRecDepth 100000
set_option maxHeartbeats 4000000
namespace NR
open PySem PySem.Spec PyProof.Rows L2
/-! ### drawn ones (hand family) -/
theorem oneR {b : Nat} {z c : Cell} {g : IH} {R : List Nat} {m : Nat} (hm6 : m = R.length) (nR : R.Nodup) (m1 : 1 ≤ m) (m2 : m ≤ R.length) (rl : R.length ≤ 1000) (hp : Pn (b + m + 1) c) :
    ∃ t c', callC 2 m__law_one [.ref 1, .str R] (z :: c :: g) = .ok (.tup [.str [111, 110, 101], .str t]) (z :: c' :: g) ∧ 1 ≤ t.length ∧ t.length ≤ m ∧ t.Nodup ∧ (∀ x ∈ t, x ∈ R) ∧ Pn b c' := by
  obtain ⟨t, c1, e1, t1, p1⟩ := draw_call (b := b + m) (z := z) (t := g) (m := (m : Nat)) hp (by omega) (by omega)
  have tm : t < m := by omega
  have main : ∃ f c' x y rs, forM (.st (intsFrom 0 (1 + (t : Int)).toNat)) (gSet 4) b__law_one_1 ((Src.st (intsFrom 0 (1 + (t : Int)).toNat)).many (z :: c1 :: g) + 1) 0 [some (.ref 1), some (.str R), some (.str R), some (.str []), none, none] (z :: c1 :: g) =
      .nx [some (.ref 1), some (.str R), some (.str rs), some (.str f), x, y] (z :: c' :: g) ∧ 1 ≤ f.length ∧ f.length ≤ m ∧ f.Nodup ∧ (∀ x ∈ f, x ∈ R) ∧ Pn b c' := by
    have lk : (intsFrom 0 (1 + (t : Int)).toNat).length = t + 1 := by simp [intsFrom]; omega
    refine for_inv (P := fun i env h => ∃ (f rs : List Nat) (c' : Cell) (x y : Option D), env = [some (.ref 1), some (.str R), some (.str rs), some (.str f), x, y] ∧ h = z :: c' :: g ∧ f.length = i ∧ rs.length + i = R.length ∧ f.Nodup ∧ rs.Nodup ∧ (∀ k ∈ f, k ∉ rs) ∧ (∀ k ∈ f, k ∈ R) ∧ (∀ k ∈ rs, k ∈ R) ∧ i ≤ m ∧ Pn (b + (m - i)) c')
      (Rs := fun r => ∃ f c' x y rs, r = .nx [some (.ref 1), some (.str R), some (.str rs), some (.str f), x, y] (z :: c' :: g) ∧ 1 ≤ f.length ∧ f.length ≤ m ∧ f.Nodup ∧ (∀ x ∈ f, x ∈ R) ∧ Pn b c')
      ⟨[], R, c1, none, none, rfl, rfl, rfl, by simp, by simp, nR, by simp, by simp, fun c hc => hc, by omega, p1⟩ ?_ ?_
    · rintro i d env h hd ⟨f, rs, c', x, y, rfl, rfl, lf, lr, nf, nr, dj, s1, s2, i6, p⟩
      have hi : i < t + 1 := by
        have := (List.getElem?_eq_some_iff.mp hd).1
        omega
      refine ⟨_, rfl, ?_⟩
      obtain ⟨u, c2, e2, u1, p2⟩ := draw_call (b := b + (m - (i + 1))) (z := z) (t := g) (m := rs.length) (p.mono (by omega)) (by omega) (by omega)
      have hu : u < rs.length := by omega
      have hc : rs[u]? = some rs[u] := List.getElem?_eq_getElem hu
      generalize rs[u] = k at hc
      have hkm : k ∈ rs := List.mem_of_getElem? hc
      have b1 : ∀ h, bLen [.str rs] h = .ok (.int (rs.length : Nat)) h := fun h => bLen_str (by omega)
      have b2 : ∀ h, dIx (.str rs) (.int (u : Nat)) h = .ok (.str [k]) h := fun h => dIx_str (by omega) (by simpa using hc) (by omega)
      have b3 : ∀ h, dAdd (.str f) (.str [k]) h = .ok (.str (f ++ [k])) h := fun h => dAdd_str (by simp; omega)
      have b4 : ∀ h, sliceD (.str rs) none (some (u : Nat)) h = .ok (.str (rs.take u)) h := fun h => by rw [sliceD_str (by omega), cutN_to (by omega)]; simp
      have b5 : ∀ h, sliceD (.str rs) (some ((u : Nat) + 1)) none h = .ok (.str (rs.drop (u + 1))) h := fun h => by rw [sliceD_str (by omega), cutN_from (by omega)]; congr 2
      have b6 : ∀ h, dAdd (.str (rs.take u)) (.str (rs.drop (u + 1))) h = .ok (.str (rs.eraseIdx u)) h := fun h => by
        rw [dAdd_str, erase_cut]
        rw [List.length_take, List.length_drop]
        omega
      unfold b__law_one_1
      simp only [ap_msCons, ap_msSet, ap_msAug, ap_mCall, ap_mCons, ap_mNil, ap_mVar, ap_mB, ap_mOp, ap_mFz_slice, ap_mFz_op, ap_mSlice, ap_moNone, ap_moSome, ap_mC, bind_ok, bindS_ok, then_nx, List.set_cons_zero, List.set_cons_succ, List.getElem?_cons_zero, List.getElem?_cons_succ, b1, e2, b2, b3, b4, b5, b6, dAdd_int, fz_str, Nx_nx]
      refine ⟨f ++ [k], rs.eraseIdx u, c2, _, _, rfl, rfl, by simp; omega, ?_, ?_, nodup_erase nr _, ?_, ?_, fun j hj => s2 j ((List.eraseIdx_sublist _ _).subset hj), by omega, p2⟩
      · rw [List.length_eraseIdx, if_pos (by omega)]
        omega
      · rw [List.nodup_append]
        exact ⟨nf, by simp, fun a ha j hj => by rw [List.mem_singleton] at hj; subst hj; exact fun z => dj a ha (z ▸ hkm)⟩
      · intro a ha
        rcases List.mem_append.mp ha with ha | ha
        · exact fun z => dj a ha ((List.eraseIdx_sublist _ _).subset z)
        · rw [List.mem_singleton] at ha
          subst ha
          exact not_mem_erase nr hc
      · intro a ha
        rcases List.mem_append.mp ha with ha | ha
        · exact s1 a ha
        · rw [List.mem_singleton] at ha
          subst ha
          exact s2 a hkm
    · rintro env h ⟨f, rs, c', x, y, rfl, rfl, lf, lr, nf, nr, dj, s1, s2, i6, p⟩
      rw [lk] at lf
      exact ⟨f, c', x, y, rs, rfl, by omega, by omega, nf, s1, p.mono (by omega)⟩
  obtain ⟨f, c', x, y, rs, ef, f1, f2, f3, f4, p'⟩ := main
  refine ⟨f, c', callC_pen0 rfl ?_, f1, f2, f3, f4, p'⟩
  have e1 : callC 2 m__law_take [.ref 1, .int (m : Nat)] (z :: c :: g) = .ok (.int (t : Nat)) (z :: c1 :: g) := e1
  have bl : ∀ h, bLen [.str R] h = .ok (.int (m : Nat)) h := fun h => by rw [bLen_str (by omega), hm6]
  unfold m__law_one
  simp [e1, bl, show -10000000 ≤ 1 + (t : Int) ∧ 1 + (t : Int) ≤ 10000000 by omega, ef]
theorem one_call {b : Nat} {z c : Cell} {g : IH} {t : List Nat} (tg : Tgn t) (hp : Pn (b + 7) c) : ∃ s c', callC 2 m__law_one [.ref 1, .str t] (z :: c :: g) = .ok (.tup [.str [111, 110, 101], .str s]) (z :: c' :: g) ∧ 1 ≤ s.length ∧ s.length ≤ 6 ∧ s.Nodup ∧ (∀ x ∈ s, x ∈ t) ∧ Pn b c' := by
  have l1 := tg.l1
  have l2 := tg.l2
  obtain ⟨s, c', e, h1, h2, h3, h4, p⟩ := oneR (b := b) (z := z) (c := c) (g := g) (R := t) (m := t.length) rfl tg.nd l1 (Nat.le_refl _) (by omega) (hp.mono (by omega))
  exact ⟨s, c', e, h1, by omega, h3, h4, p⟩
end NR

set_option Elab.async false
set_option linter.all false
set_option maxRecDepth 100000
set_option maxHeartbeats 1000000
namespace NR
open PySem PySem.Spec PyProof.Rows L2
/-! ### names (hand family) -/
def lettersH : List Nat := [97, 98, 99, 100, 101, 102, 103, 104, 105, 106, 107, 108, 109, 110, 111, 112, 113, 114, 115, 116, 117, 118, 119, 120, 121, 122]
theorem lettersH_len : lettersH.length = 26 := rfl
theorem lettersH_nd : lettersH.Nodup := by decide
/-- a name -/
def NmH (n : List Nat) : Prop := 1 ≤ n.length ∧ n.length ≤ 8 ∧ ∀ x ∈ n, x ∈ lettersH
theorem nodup_lenG : ∀ {l m : List (List Nat)}, l.Nodup → (∀ x ∈ l, x ∈ m) → l.length ≤ m.length
  | [], m, _, _ => by simp
  | a :: l, m, nd, h => by
    rw [List.nodup_cons] at nd
    have am := h a List.mem_cons_self
    have ih := nodup_lenG (l := l) (m := m.erase a) nd.2 fun x hx => by
      have ne : x ≠ a := fun e => nd.1 (e ▸ hx)
      exact (List.mem_erase_of_ne ne).mpr (h x (List.mem_cons_of_mem _ hx))
    rw [List.length_erase_of_mem am] at ih
    have : 0 < m.length := List.length_pos_of_mem am
    rw [List.length_cons]
    omega
theorem free_letter {ns : List (List Nat)} (nl : ns.length ≤ 20) : ∃ x xs, lettersH.filter (fun x => !decide ([x] ∈ ns)) = x :: xs := by
  cases q : lettersH.filter (fun x => !decide ([x] ∈ ns)) with
  | cons x xs => exact ⟨x, xs, rfl⟩
  | nil =>
    exfalso
    rw [List.filter_eq_nil_iff] at q
    have := nodup_lenG (l := lettersH.map fun x => [x]) (m := ns) (by
      rw [List.nodup_iff_pairwise_ne, List.pairwise_map]
      exact (List.nodup_iff_pairwise_ne.mp lettersH_nd).imp fun ne e => ne (by injection e)) (fun y hy => by
      obtain ⟨x, hx, rfl⟩ := List.mem_map.mp hy
      have := q x hx
      simpa using this)
    rw [List.length_map, lettersH_len] at this
    omega
theorem in_namesF {ns : List (List Nat)} {neg : Bool} {H : IH} (n : List Nat) : dIn neg (.str n) (.fl (ns.map D.str)) H = .ok (.bl (if neg then !decide (n ∈ ns) else decide (n ∈ ns))) H := by
  rw [dIn_pl (ys := ns.map D.str) rfl rfl (fun d hd => by obtain ⟨w, _, rfl⟩ := List.mem_map.mp hd; rfl)]
  have : ((D.str n).nm ∈ (ns.map D.str).map D.nm) ↔ n ∈ ns := by
    rw [List.map_map]
    constructor
    · intro h
      obtain ⟨w, hw, e⟩ := List.mem_map.mp h
      have e : (D.str w).nm = (D.str n).nm := e
      have : w = n := by simpa using e
      exact this ▸ hw
    · intro h
      exact List.mem_map.mpr ⟨n, h, rfl⟩
  rw [decide_eq_decide.mpr this]
theorem name_call {b : Nat} {ns : List (List Nat)} {z c : Cell} {g : IH} (nl : ns.length ≤ 20) (hp : Pn (b + 12) c) : ∃ nm c', callC 2 m__law_name [.ref 1, .fl (ns.map D.str)] (z :: c :: g) = .ok (.str nm) (z :: c' :: g) ∧ NmH nm ∧ nm ∉ ns ∧ Pn b c' := by
  obtain ⟨u, c1, e1, u1, p1⟩ := draw_call (b := b + 11) (z := z) (x := c) (t := g) (m := 8) (hp.mono (by omega)) (by omega) (by omega)
  obtain ⟨w, c2, e2, wl, wb, p2, ju⟩ := word_draw (env := [some (.ref 1), some (.fl (ns.map D.str)), some (.str lettersH), none, none, none]) (it := iRange1 (mCons (mOp dAdd (mC (.int 1)) (mCall 2 (m__law_take) (mCons (mVar 0) (mCons (mC (.int 8)) (mNil))))) (mNil))) (k := 4) (e := e__law_name_1) (z := z) (cc := c) (c0 := c1) (g := g) (t := lettersH) (n := 1 + u) (b := b) (by omega) (iRange1_of (j := 1 + (u : Nat)) (k := 1 + u) (by simp [e1]) (by omega) (by omega)) (p1.mono (by omega)) (fun d b c g hb => by
    obtain ⟨v, c1, e1, v1, q1⟩ := draw_call (b := b) (z := z) (x := c) (t := g) (m := 26) hb (by omega) (by omega)
    have hv : v < lettersH.length := by rw [lettersH_len]; omega
    refine ⟨lettersH[v], c1, ?_, q1, List.getElem_mem hv⟩
    have ix : ∀ h, dIx (.str lettersH) (.int (v : Nat)) h = .ok (.str [lettersH[v]]) h := fun h => dIx_str (by omega) (by simp [hv]) (by rw [lettersH_len]; omega)
    generalize lettersH[v] = lt at *
    unfold e__law_name_1
    generalize ns.map D.str = NS at *
    generalize lettersH = LL at *
    simp [wipeE, e1, ix])
  have nw : NmH w := ⟨by omega, by omega, wb⟩
  have si := in_namesF (ns := ns) (neg := false) (H := z :: c2 :: g) w
  simp only [Bool.false_eq_true, if_false] at si
  suffices key : ∃ nm, m__law_name [.ref 1, .fl (ns.map D.str)] (z :: c :: g) = .ok (.str nm) (z :: c2 :: g) ∧ NmH nm ∧ nm ∉ ns by
    obtain ⟨nm, e, q1, q2⟩ := key
    exact ⟨nm, c2, callC_pen0 rfl e, q1, q2, p2⟩
  have start : ∀ {x : D}, ((msCons (msIf (mTb (mOp (dIn false) (mVar 3) (mVar 1))) (msRet (mOp dIx (mFz (mLc (iSeq (mVar 2)) (gSet 5) t__law_name_2 e__law_name_3 [5])) (mC (.int 0)))) (msNil)) (msRet (mVar 3))) [some (.ref 1), some (.fl (ns.map D.str)), some (.str lettersH), some (.str w), none, none] (z :: c2 :: g)).fin = .ok x (z :: c2 :: g) → m__law_name [.ref 1, .fl (ns.map D.str)] (z :: c :: g) = .ok x (z :: c2 :: g) := fun e => by
    unfold m__law_name
    rw [ap_fnM]
    simp only [List.map_cons, List.map_nil, List.length_cons, List.length_nil, List.cons_append, List.nil_append, Nat.reduceAdd, Nat.reduceSub, List.replicate]
    refine stN (env2 := [some (.ref 1), some (.fl (ns.map D.str)), some (.str lettersH), none, none, none]) (h2 := z :: c :: g) rfl ?_
    refine stN (env2 := [some (.ref 1), some (.fl (ns.map D.str)), some (.str lettersH), some (.str w), none, none]) (h2 := z :: c2 :: g) (by
      clear e si
      generalize mFz (mLc (iRange1 (mCons (mOp dAdd (mC (.int 1)) (mCall 2 (m__law_take) (mCons (mVar 0) (mCons (mC (.int 8)) (mNil))))) (mNil))) (gSet 4) mYes e__law_name_1 [4]) = CC at *
      generalize sgD w = SW at *
      generalize ns.map D.str = NS at *
      generalize lettersH = LL at *
      simp [e2, ju, tyD]) ?_
    exact e
  by_cases q : w ∈ ns
  · obtain ⟨x, xs, ef⟩ := free_letter nl
    have xm : x ∈ lettersH ∧ [x] ∉ ns := by
      have : x ∈ lettersH.filter (fun x => !decide ([x] ∈ ns)) := by rw [ef]; exact List.mem_cons_self
      rw [List.mem_filter] at this
      exact ⟨this.1, by simpa using this.2⟩
    refine ⟨[x], start ?_, ⟨by simp, by simp, fun y hy => by rw [List.mem_singleton] at hy; subst hy; exact xm.1⟩, xm.2⟩
    have comp := lcF_filter (it := iSeq (mVar 2)) (ws := [5]) (gg := gSet 5) (t := t__law_name_2) (m := e__law_name_3) (ds := sgD lettersH) (h := z :: c2 :: g) (env := [some (.ref 1), some (.fl (ns.map D.str)), some (.str lettersH), some (.str w), none, none]) id (fun d => match d with | .str s => !decide (s ∈ ns) | _ => false) (iSeq_str rfl (by rw [lettersH_len]; omega)) (by unfold sgD; rw [List.length_map, lettersH_len]; omega) (fun d hd _ => by
      obtain ⟨y, hy, rfl⟩ := List.mem_map.mp hd
      rfl) (fun d hd => by
      obtain ⟨y, hy, rfl⟩ := List.mem_map.mp hd
      refine ⟨[some (.ref 1), some (.fl (ns.map D.str)), some (.str lettersH), some (.str w), none, some (.str [y])], rfl, fun v => ?_, fun v _ => rfl⟩
      have sn := in_namesF (ns := ns) (neg := true) (H := z :: c2 :: g ++ [v]) [y]
      simp only [if_true] at sn
      unfold t__law_name_2
      generalize z :: c2 :: g ++ [v] = H1 at *
      have v5 : (mVar 5) [some (.ref 1), some (.fl (ns.map D.str)), some (.str lettersH), some (.str w), none, some (.str [y])] H1 = .ok (.str [y]) H1 := rfl
      have v1 : (mVar 1) [some (.ref 1), some (.fl (ns.map D.str)), some (.str lettersH), some (.str w), none, some (.str [y])] H1 = .ok (.fl (ns.map D.str)) H1 := rfl
      rw [ap_mTb]
      simp only [ap_mOp, v5, v1, bind_ok, sn]
      rfl)
    have em : ((sgD lettersH).filter (fun d => match d with | .str s => !decide (s ∈ ns) | _ => false)).map id = sgD (x :: xs) := by
      rw [List.map_id, ← ef]
      unfold sgD
      rw [List.filter_map]
      rfl
    rw [em] at comp
    have i0 : dIx (.fl (sgD (x :: xs))) (.int ((0 : Nat) : Int)) (z :: c2 :: g) = .ok (.str [x]) (z :: c2 :: g) := dIx_nat (xs := sgD (x :: xs)) rfl rfl
    rw [show ((0 : Nat) : Int) = 0 from rfl] at i0
    refine stR ?_
    generalize mFz (mLc (iSeq (mVar 2)) (gSet 5) t__law_name_2 e__law_name_3 [5]) = CC at *
    generalize sgD (x :: xs) = SX at *
    generalize ns.map D.str = NS at *
    simp [si, q, comp, i0]
  · refine ⟨w, start ?_, nw, q⟩
    generalize ns.map D.str = NS at *
    simp [si, q]
end NR

set_option Elab.async false
set_option linter.all false
set_option maxRecDepth 100000
set_option maxHeartbeats 4000000
namespace NR
open PySem PySem.Spec PyProof.Rows L2
/-! ### shapes -/
def kOne : List Nat := [111, 110, 101]
def kRow : List Nat := [114, 111, 119]
def kEit : List Nat := [101, 105, 116, 104, 101, 114]
def kMany : List Nat := [109, 97, 110, 121]
def kTim : List Nat := [116, 105, 109, 101, 115]
@[simp] theorem n_kOne_kRow : (kOne = kRow) = False := eq_false (by decide)
@[simp] theorem n_kOne_kEit : (kOne = kEit) = False := eq_false (by decide)
@[simp] theorem n_kOne_kMany : (kOne = kMany) = False := eq_false (by decide)
@[simp] theorem n_kOne_kTim : (kOne = kTim) = False := eq_false (by decide)
@[simp] theorem n_kRow_kOne : (kRow = kOne) = False := eq_false (by decide)
@[simp] theorem n_kRow_kEit : (kRow = kEit) = False := eq_false (by decide)
@[simp] theorem n_kRow_kMany : (kRow = kMany) = False := eq_false (by decide)
@[simp] theorem n_kRow_kTim : (kRow = kTim) = False := eq_false (by decide)
@[simp] theorem n_kEit_kOne : (kEit = kOne) = False := eq_false (by decide)
@[simp] theorem n_kEit_kRow : (kEit = kRow) = False := eq_false (by decide)
@[simp] theorem n_kEit_kMany : (kEit = kMany) = False := eq_false (by decide)
@[simp] theorem n_kEit_kTim : (kEit = kTim) = False := eq_false (by decide)
@[simp] theorem n_kMany_kOne : (kMany = kOne) = False := eq_false (by decide)
@[simp] theorem n_kMany_kRow : (kMany = kRow) = False := eq_false (by decide)
@[simp] theorem n_kMany_kEit : (kMany = kEit) = False := eq_false (by decide)
@[simp] theorem n_kMany_kTim : (kMany = kTim) = False := eq_false (by decide)
@[simp] theorem n_kTim_kOne : (kTim = kOne) = False := eq_false (by decide)
@[simp] theorem n_kTim_kRow : (kTim = kRow) = False := eq_false (by decide)
@[simp] theorem n_kTim_kEit : (kTim = kEit) = False := eq_false (by decide)
@[simp] theorem n_kTim_kMany : (kTim = kMany) = False := eq_false (by decide)
/-- at most so deep -/
inductive IsSh : Nat → D → Prop
  | one {d : Nat} {s : List Nat} : IsSh (d + 1) (.tup [.str kOne, .str s])
  | row {d : Nat} {l : List D} (n : l.length ≤ 100) (h : ∀ y ∈ l, IsSh d y) : IsSh (d + 1) (.tup [.str kRow, .tup l])
  | eit {d : Nat} {l : List D} (n : l.length ≤ 100) (h : ∀ y ∈ l, IsSh d y) : IsSh (d + 1) (.tup [.str kEit, .tup l])
  | many {d : Nat} {p : D} (h : IsSh d p) : IsSh (d + 1) (.tup [.str kMany, p])
  | times {d : Nat} {p : D} {lo hi : Int} (h : IsSh d p) (h0 : 0 ≤ hi) (h4 : hi ≤ 4) : IsSh (d + 1) (.tup [.str kTim, p, .int lo, .int hi])
theorem IsSh.mono {d : Nat} {x : D} (h : IsSh d x) : ∀ {e : Nat}, d ≤ e → IsSh e x := by
  induction h with
  | one => intro e l; cases e with | zero => omega | succ e => exact .one
  | row n _ ih => intro e l; cases e with | zero => omega | succ e => exact .row n fun y hy => ih y hy (by omega)
  | eit n _ ih => intro e l; cases e with | zero => omega | succ e => exact .eit n fun y hy => ih y hy (by omega)
  | many _ ih => intro e l; cases e with | zero => omega | succ e => exact .many (ih (by omega))
  | times _ h0 h4 ih => intro e l; cases e with | zero => omega | succ e => exact .times (ih (by omega)) h0 h4
theorem IsSh.lo {d : Nat} {x : D} (h : IsSh d x) (n : Nat) : x.lo n = true := by
  induction h with
  | one => rfl
  | row _ _ ih => simp; exact loL_of fun y hy => ih y hy
  | eit _ _ ih => simp; exact loL_of fun y hy => ih y hy
  | many _ ih => simp [ih]
  | times _ _ _ ih => simp [ih]
def innerD : D → List D
  | .tup [.str s, y] => if s = kOne then [] else if s = kRow ∨ s = kEit then (match y with | .tup l => l | _ => []) else [y]
  | .tup [.str _, y, _, _] => [y]
  | _ => []
theorem innerD_one {s : List Nat} : innerD (.tup [.str kOne, .str s]) = [] := rfl
theorem innerD_row {l : List D} : innerD (.tup [.str kRow, .tup l]) = l := rfl
theorem innerD_eit {l : List D} : innerD (.tup [.str kEit, .tup l]) = l := rfl
theorem innerD_many {p : D} : innerD (.tup [.str kMany, p]) = [p] := rfl
theorem innerD_times {p : D} {lo hi : Int} : innerD (.tup [.str kTim, p, .int lo, .int hi]) = [p] := rfl
theorem IsSh.inner {d : Nat} {x : D} (h : IsSh (d + 1) x) : (innerD x).length ≤ 100 ∧ ∀ y ∈ innerD x, IsSh d y := by
  cases h with
  | one => exact ⟨by rw [innerD_one]; simp, by rw [innerD_one]; simp⟩
  | row n h => exact ⟨n, h⟩
  | eit n h => exact ⟨n, h⟩
  | many h => exact ⟨by rw [innerD_many]; simp, by rw [innerD_many]; simpa using h⟩
  | times h => exact ⟨by rw [innerD_times]; simp, by rw [innerD_times]; simpa using h⟩
def weightD : Nat → D → Int
  | 0, _ => 0
  | d + 1, x => match x with
    | .tup [.str s, y] => if s = kOne then 1 else ((innerD (.tup [.str s, y])).map (weightD d)).sum
    | .tup [.str s, y, lo, .int hi] => hi * ((innerD (.tup [.str s, y, lo, .int hi])).map (weightD d)).sum
    | _ => 0
def partsD : Nat → D → List D
  | 0, _ => []
  | d + 1, x => x :: ((innerD x).map (partsD d)).flatten
theorem t0 {l : List D} {d : D} (h : IH) (e : l[0]? = some d) : dIx (.tup l) (.int 0) h = .ok d h := dIx_seq (xs := l) rfl (by omega) e
theorem t1 {l : List D} {d : D} (h : IH) (e : l[1]? = some d) : dIx (.tup l) (.int 1) h = .ok d h := dIx_seq (xs := l) rfl (by omega) e
theorem t3 {l : List D} {d : D} (h : IH) (e : l[3]? = some d) : dIx (.tup l) (.int 3) h = .ok d h := dIx_seq (xs := l) rfl (by omega) e
theorem str_in (h : IH) (a : List Nat) : dIn false (.str a) (.tup [.str kRow, .str kEit]) h = .ok (.bl (decide (a = kRow) || decide (a = kEit))) h := by
  rw [dIn_pl (ys := [.str kRow, .str kEit]) rfl rfl (by simp)]
  simp
theorem lOne : ([111, 110, 101] : List Nat) = kOne := rfl
theorem lRow : ([114, 111, 119] : List Nat) = kRow := rfl
theorem lEit : ([101, 105, 116, 104, 101, 114] : List Nat) = kEit := rfl
theorem lTim : ([116, 105, 109, 101, 115] : List Nat) = kTim := rfl
theorem inner_call {d : Nat} {x : D} (s : IsSh d x) (h : IH) : callC 1 m_inner [x] h = .ok (.tup (innerD x)) h := by
  refine callC_same rfl ?_
  have si := str_in h
  unfold m_inner
  rw [lOne, lRow, lEit]
  cases s with
  | one =>
    rename_i s
    rw [innerD_one]
    simp [t0 h (l := [.str kOne, .str s]) rfl]
  | row n hh =>
    rename_i l
    rw [innerD_row]
    simp [t0 h (l := [.str kRow, .tup l]) rfl, t1 h (l := [.str kRow, .tup l]) rfl, si]
  | eit n hh =>
    rename_i l
    rw [innerD_eit]
    simp [t0 h (l := [.str kEit, .tup l]) rfl, t1 h (l := [.str kEit, .tup l]) rfl, si]
  | many hh =>
    rename_i p
    rw [innerD_many]
    simp [t0 h (l := [.str kMany, p]) rfl, t1 h (l := [.str kMany, p]) rfl, si]
  | times hh h0 h4 =>
    rename_i p lo hi
    rw [innerD_times]
    simp [t0 h (l := [.str kTim, p, .int lo, .int hi]) rfl, t1 h (l := [.str kTim, p, .int lo, .int hi]) rfl, si]
theorem weight_call : ∀ (d n : Nat) (x : D), IsSh d x → d ≤ n → ∀ h : IH, callC 1 (m_weight n) [x] h = .ok (.int (weightD d x)) h
  | 0, _, _, s, _, _ => by cases s
  | d + 1, 0, _, _, l, _ => by omega
  | d + 1, n + 1, x, s, l, h => by
    obtain ⟨il, ih⟩ := s.inner
    have ic := inner_call s h
    have comp := lcF_map (h := h) (env := [some x, none, none]) (it := iSeq (mCall 1 (m_inner) (mCons (mVar 0) (mNil)))) (ws := [2]) (gg := gSet 2) (m := e_weight_1 (m_weight n)) (ds := innerD x) (fun y => .int (weightD d y)) (by simp [ic]) (by omega) (fun y _ => rfl) (fun y hy => ⟨_, rfl, fun w => by
      have := weight_call d n y (ih y hy) (by omega) (h ++ [w])
      unfold e_weight_1
      simp [wipeE, gSet, this]⟩)
    have e2 : (innerD x).map (fun y => D.int (weightD d y)) = ((innerD x).map (weightD d)).map D.int := by
      rw [List.map_map]
      rfl
    rw [e2] at comp
    rw [m_weight_succ]
    refine callC_same rfl ?_
    unfold B_weight
    rw [lOne, lTim]
    generalize mFz (mLc (iSeq (mCall 1 (m_inner) (mCons (mVar 0) (mNil)))) (gSet 2) mYes (e_weight_1 (m_weight n)) [2]) = F at comp
    unfold weightD
    cases s with
    | one =>
      rename_i s
      simp [t0 h (l := [.str kOne, .str s]) rfl]
    | row n1 hh =>
      rename_i l'
      generalize hS : ((innerD (.tup [.str kRow, .tup l'])).map (weightD d)) = W at *
      simp [t0 h (l := [.str kRow, .tup l']) rfl, comp, hS]
    | eit n1 hh =>
      rename_i l'
      generalize hS : ((innerD (.tup [.str kEit, .tup l'])).map (weightD d)) = W at *
      simp [t0 h (l := [.str kEit, .tup l']) rfl, comp, hS]
    | many hh =>
      rename_i p
      generalize hS : ((innerD (.tup [.str kMany, p])).map (weightD d)) = W at *
      simp [t0 h (l := [.str kMany, p]) rfl, comp, hS]
    | times hh h0 h4 =>
      rename_i p lo hi
      generalize hS : ((innerD (.tup [.str kTim, p, .int lo, .int hi])).map (weightD d)) = W at *
      have cm : cMul hi W.sum = true := by simp [cMul]; omega
      simp [t0 h (l := [.str kTim, p, .int lo, .int hi]) rfl, t3 h (l := [.str kTim, p, .int lo, .int hi]) rfl, comp, cm, hS]
/-- the parts are shapes -/
theorem parts_sh : ∀ {d : Nat} {x : D}, IsSh d x → ∀ y ∈ partsD d x, ∃ e, e ≤ d ∧ IsSh e y
  | 0, _, s, _, _ => by cases s
  | d + 1, x, s, y, hy => by
    have : partsD (d + 1) x = x :: ((innerD x).map (partsD d)).flatten := rfl
    rw [this] at hy
    rcases List.mem_cons.mp hy with rfl | hy
    · exact ⟨d + 1, Nat.le_refl _, s⟩
    · obtain ⟨l, hl, hy⟩ := List.mem_flatten.mp hy
      obtain ⟨z, hz, rfl⟩ := List.mem_map.mp hl
      obtain ⟨e, he, se⟩ := parts_sh (s.inner.2 z hz) y hy
      exact ⟨e, by omega, se⟩
theorem parts_lo {d : Nat} {x : D} (s : IsSh d x) (y : D) (hy : y ∈ partsD d x) (n : Nat) : y.lo n = true := by
  obtain ⟨e, _, se⟩ := parts_sh s y hy
  exact se.lo n
theorem flat_mem {f : D → List D} : ∀ {l : List D} {y : D}, y ∈ l → (f y).length ≤ ((l.map f).flatten).length
  | [], _, h => by cases h
  | z :: l, y, h => by
    rw [List.map_cons, List.flatten_cons, List.length_append]
    rcases List.mem_cons.mp h with rfl | h
    · omega
    · have := flat_mem (f := f) h
      omega
theorem parts_loop {d n : Nat} {h : IH} {e0 : Option D} (call : ∀ y, IsSh d y → (partsD d y).length ≤ 10000 → ∀ h : IH, callC 1 (m_parts_of n) [y] h = .ok (.tup (partsD d y)) h) : ∀ (l acc : List D) (x : Option D), (∀ y ∈ l, IsSh d y) → (∀ y ∈ l, (partsD d y).length ≤ 10000) → acc.length + ((l.map (partsD d)).flatten).length ≤ 100000 →
    ∃ x', forL (gSet 2) (b_parts_of_1 (m_parts_of n)) l [e0, some (.ref h.length), x] (h ++ [.lst acc]) = .nx [e0, some (.ref h.length), x'] (h ++ [.lst (acc ++ (l.map (partsD d)).flatten)])
  | [], acc, x, _, _, _ => ⟨x, by simp⟩
  | y :: l, acc, x, hl, hs, al => by
    rw [List.map_cons, List.flatten_cons, List.length_append] at al
    obtain ⟨x', ih⟩ := parts_loop (h := h) (e0 := e0) call l (acc ++ partsD d y) (some y) (fun z hz => hl z (List.mem_cons_of_mem _ hz)) (fun z hz => hs z (List.mem_cons_of_mem _ hz)) (by rw [List.length_append]; omega)
    refine ⟨x', ?_⟩
    have c := call y (hl y List.mem_cons_self) (hs y List.mem_cons_self) (h ++ [.lst acc])
    have g0 : (h ++ [Cell.lst acc])[h.length]? = some (.lst acc) := get_app0
    have ty : tyD "list" (h ++ [Cell.lst acc]) (.ref h.length) = true := tyD_ref g0
    have ex1 : fExtend (.ref h.length) [.tup (partsD d y)] (h ++ [Cell.lst acc]) = .no := by
      unfold fExtend
      dsimp only
      rw [g0]
      rfl
    have ex2 : fExtendT (.ref h.length) [.tup (partsD d y)] (h ++ [Cell.lst acc]) = .ok .non (h ++ [Cell.lst (acc ++ partsD d y)]) := by
      unfold fExtendT
      dsimp only
      rw [g0]
      dsimp only
      rw [if_pos (by omega), set_app0]
      rfl
    rw [forL_cons (e1 := [e0, some (.ref h.length), some y]) rfl]
    have e : b_parts_of_1 (m_parts_of n) [e0, some (.ref h.length), some y] (h ++ [.lst acc]) = .nx [e0, some (.ref h.length), some y] (h ++ [.lst (acc ++ partsD d y)]) := by
      unfold b_parts_of_1 mOrE
      generalize partsD d y = P at *
      simp [ty, c, ex1, ex2]
    rw [e, on_nx, List.map_cons, List.flatten_cons, ← List.append_assoc]
    exact ih
theorem parts_call : ∀ (d n : Nat) (x : D), IsSh d x → d ≤ n → (partsD d x).length ≤ 10000 → ∀ h : IH, callC 1 (m_parts_of n) [x] h = .ok (.tup (partsD d x)) h
  | 0, _, _, s, _, _, _ => by cases s
  | d + 1, 0, _, _, l, _, _ => by omega
  | d + 1, n + 1, x, s, l, pl, h => by
    obtain ⟨il, ih⟩ := s.inner
    have pl' : ((innerD x).map (partsD d)).flatten.length + 1 ≤ 10000 := by
      have : partsD (d + 1) x = x :: ((innerD x).map (partsD d)).flatten := rfl
      rw [this, List.length_cons] at pl
      exact pl
    have sub : ∀ y ∈ innerD x, (partsD d y).length ≤ 10000 := fun y hy => by
      have := flat_mem (f := partsD d) hy
      omega
    obtain ⟨x', lp⟩ := parts_loop (d := d) (n := n) (h := h) (e0 := some x) (fun y sy ly h => parts_call d n y sy (by omega) ly h) (innerD x) [x] none ih sub (by rw [List.length_singleton]; omega)
    have ic := inner_call s (h ++ [.lst [x]])
    have e1 : msFor (iSeq (mCall 1 (m_inner) (mCons (mVar 0) (mNil)))) (gSet 2) (b_parts_of_1 (m_parts_of n)) [some x, some (.ref h.length), none] (h ++ [.lst [x]]) = .nx [some x, some (.ref h.length), x'] (h ++ [.lst (partsD (d + 1) x)]) := by
      rw [ap_msFor, show iSeq (mCall 1 (m_inner) (mCons (mVar 0) (mNil))) [some x, some (.ref h.length), none] (h ++ [.lst [x]]) = .ok (.st (innerD x)) (h ++ [.lst [x]]) by simp [ic], bindS_ok, forM_forL]
      exact lp
    have tx : bTupleX [.ref h.length] (h ++ [Cell.lst (partsD (d + 1) x)]) = .ok (.tup (partsD (d + 1) x)) (h ++ [Cell.lst (partsD (d + 1) x)]) := bTupleX_ref get_app0
    rw [m_parts_of_succ]
    refine callC_pure rfl (g := [.lst (partsD (d + 1) x)]) ?_ (by
      simp only [D.lo]
      exact loL_of fun y hy => parts_lo s y hy _)
    unfold B_parts_of
    have e0 : (msSet 1 (mLst (mCons (mVar 0) (mNil)))) [some x, none, none] h = .nx [some x, some (.ref h.length), none] (h ++ [.lst [x]]) := by simp [newL]
    generalize msFor (iSeq (mCall 1 (m_inner) (mCons (mVar 0) (mNil)))) (gSet 2) (b_parts_of_1 (m_parts_of n)) = F at e1
    rw [ap_fnM]
    simp only [List.map_cons, List.map_nil, List.length_cons, List.length_nil, List.cons_append, List.nil_append, Nat.reduceAdd, Nat.reduceSub, List.replicate]
    rw [ap_msCons, e0, then_nx, ap_msCons, e1, then_nx]
    simp [tx]
end NR

set_option Elab.async false
set_option linter.all false
set_option maxRecDepth 100000
set_option maxHeartbeats 4000000
namespace NR
open PySem PySem.Spec PyProof.Rows L2
/-! ### shapes that are drawn -/
theorem okB_set {k : Nat} {v : Cell} (lv : Cell.lo k v = true) : ∀ {g : IH} {i : Nat} {r : IH}, okB k g (g.set i v ++ r)
  | [], _, _ => True.intro
  | c :: g, 0, r => ⟨.inr lv, okB_self⟩
  | c :: g, i + 1, r => ⟨.inl rfl, okB_set (g := g) (i := i) lv⟩
theorem get_setC {g : IH} {i : Nat} {v w : Cell} (e : g[i]? = some v) : (g.set i w)[i]? = some w := by
  have := (List.getElem?_eq_some_iff.mp e).1
  rw [List.getElem?_set_self this]
def pu (p : Nat) : Cell := .lst [.int (p : Nat)]
theorem parts_one {d : Nat} {s : List Nat} : partsD (d + 1) (.tup [.str kOne, .str s]) = [.tup [.str kOne, .str s]] := by
  unfold partsD
  rw [innerD_one]
  rfl
/-- a shape as the law draws it -/
inductive Sg (t : List Nat) : Nat → D → Prop
  | one {d : Nat} {s : List Nat} (n1 : 1 ≤ s.length) (n6 : s.length ≤ 6) (nd : s.Nodup) (sub : ∀ c ∈ s, c ∈ t) : Sg t (d + 1) (.tup [.str kOne, .str s])
  | row {d : Nat} {l : List D} (n : l.length ≤ 6) (h : ∀ y ∈ l, Sg t d y) : Sg t (d + 1) (.tup [.str kRow, .tup l])
  | eit {d : Nat} {l : List D} (n : l.length ≤ 6) (n1 : 1 ≤ l.length) (h : ∀ y ∈ l, Sg t d y) : Sg t (d + 1) (.tup [.str kEit, .tup l])
  | many {d : Nat} {p : D} (h : Sg t d p) : Sg t (d + 1) (.tup [.str kMany, p])
  | times {d : Nat} {p : D} {lo hi : Int} (h : Sg t d p) (l0 : 0 ≤ lo) (lh : lo ≤ hi) (h4 : hi ≤ 4) : Sg t (d + 1) (.tup [.str kTim, p, .int lo, .int hi])
theorem Sg.sh {t : List Nat} {d : Nat} {x : D} (h : Sg t d x) : IsSh d x := by
  induction h with
  | one => exact .one
  | row n _ ih => exact .row (by omega) ih
  | eit n _ _ ih => exact .eit (by omega) ih
  | many _ ih => exact .many ih
  | times _ l0 lh h4 ih => exact .times ih (by omega) h4
theorem Sg.lo {t : List Nat} {d : Nat} {x : D} (h : Sg t d x) (n : Nat) : x.lo n = true := h.sh.lo n
end NR

set_option Elab.async false
set_option linter.all false
set_option maxRecDepth 100000
set_option maxHeartbeats 4000000
namespace NR
open PySem PySem.Spec PyProof.Rows L2
/-! ### shapes drawn by the hand: a purse of a weight and a count of parts -/
def pv (p q : Nat) : Cell := .lst [.int (p : Nat), .int (q : Nat)]
theorem pv_lo {p q k : Nat} : Cell.lo k (pv p q) = true := by simp [pv]
section
variable {t : List Nat} {e n : Nat}
/-- what _law_shape does -/
def ShOkH (t : List Nat) (e n : Nat) : Prop := ∀ (b p q F i : Nat) (z c : Cell) (g : IH), g[i]? = some (pv p q) → 1 ≤ q → Pn (b + 20 * q) c →
    ∃ (x : D) (p' q' : Nat) (c' : Cell), callC 5 (m__law_shape n) [.ref 1, .str t, .ref (i + 1 + 1), .int (F : Nat), .int (e : Nat)] (z :: c :: g) = .ok x (z :: c' :: g.set i (pv p' q')) ∧ Sg t e x ∧ q' + (partsD e x).length = q ∧ (q ≤ q' + 1 ∨ 10 ≤ q' + 2 * e) ∧ (p' : Int) + (F : Int) * weightD e x = (p : Nat) ∧ Pn (b + 20 * q') c'
theorem parts_comp (ok : ShOkH t e n) (e1 : 1 ≤ e) (e4 : e ≤ 4) {i p q F m u b : Nat} {d : Int} (dm : d - 1 = (e : Nat)) {z c : Cell} {g : IH} (hg : g[i]? = some (pv p q)) (q9 : 9 ≤ q) (m3 : m ≤ 3) (hp : Pn (b + 20 * q) c) :
    ∃ (ys : List D) (p' q' : Nat) (c' : Cell), mFz (mLc (iRange1 (mCons (mVar 8) (mNil))) (gSet 10) mYes (e__law_shape_1 (m__law_shape n)) [10]) [some (.ref 1), some (.str t), some (.ref (i + 1 + 1)), some (.int (F : Nat)), some (.int d), some (.int (u : Nat)), none, none, some (.int (m : Nat)), none, none] (z :: c :: g) = .ok (.fl ys) (z :: c' :: g.set i (pv p' q')) ∧
      ys.length = m ∧ (∀ y ∈ ys, Sg t e y) ∧ q' + ((ys.map (partsD e)).flatten).length = q ∧ 8 ≤ q' + 2 * e ∧ (p' : Int) + (F : Int) * (ys.map (weightD e)).sum = (p : Nat) ∧ Pn (b + 20 * q') c' := by
  have il : i < g.length := (List.getElem?_eq_some_iff.mp hg).1
  have ll : (intsFrom 0 m).length = m := by simp [intsFrom]
  have main : ∃ (ys : List D) (p' q' : Nat) (c' : Cell), lcM (.st (intsFrom 0 m)) (gSet 10) mYes (e__law_shape_1 (m__law_shape n)) (z :: c :: g).length ((Src.st (intsFrom 0 m)).many (z :: c :: g) + 1) 0 (wipeE [some (.ref 1), some (.str t), some (.ref (i + 1 + 1)), some (.int (F : Nat)), some (.int d), some (.int (u : Nat)), none, none, some (.int (m : Nat)), none, none] [10]) ((z :: c :: g) ++ [Cell.lst []]) = .ok (.ref (z :: c :: g).length) (z :: c' :: (g.set i (pv p' q') ++ [Cell.lst ys])) ∧
      ys.length = m ∧ (∀ y ∈ ys, Sg t e y) ∧ q' + ((ys.map (partsD e)).flatten).length = q ∧ 11 ≤ q' + 2 * e + m ∧ (p' : Int) + (F : Int) * (ys.map (weightD e)).sum = (p : Nat) ∧ Pn (b + 20 * q') c' := by
    refine lcM_inv (P := fun j h' => ∃ (ys : List D) (p' q' : Nat) (c' : Cell), h' = z :: c' :: (g.set i (pv p' q') ++ [Cell.lst ys]) ∧ ys.length = j ∧ (∀ y ∈ ys, Sg t e y) ∧ q' + ((ys.map (partsD e)).flatten).length = q ∧ 11 ≤ q' + 2 * e + j ∧ (p' : Int) + (F : Int) * (ys.map (weightD e)).sum = (p : Nat) ∧ Pn (b + 20 * q') c')
      (Rs := fun o => ∃ (ys : List D) (p' q' : Nat) (c' : Cell), o = .ok (.ref (z :: c :: g).length) (z :: c' :: (g.set i (pv p' q') ++ [Cell.lst ys])) ∧ ys.length = m ∧ (∀ y ∈ ys, Sg t e y) ∧ q' + ((ys.map (partsD e)).flatten).length = q ∧ 11 ≤ q' + 2 * e + m ∧ (p' : Int) + (F : Int) * (ys.map (weightD e)).sum = (p : Nat) ∧ Pn (b + 20 * q') c') ?_ ?_ ?_
    · rintro j dd h' hd ⟨ys, p', q', c', rfl, yl, hy, hq, hb, hw, hp'⟩
      have hj : j < m := by
        have := (List.getElem?_eq_some_iff.mp hd).1
        omega
      have hg1 : (g.set i (pv p' q') ++ [Cell.lst ys])[i]? = some (pv p' q') := by
        rw [List.getElem?_append_left (by rw [List.length_set]; exact il)]
        exact get_setC hg
      obtain ⟨x, p2, q2, c2, e2, sx, rq, rb, rw2, pn2⟩ := ok b p' q' F i z c' (g.set i (pv p' q') ++ [Cell.lst ys]) hg1 (by omega) hp'
      have se : (g.set i (pv p' q') ++ [Cell.lst ys]).set i (pv p2 q2) = g.set i (pv p2 q2) ++ [Cell.lst ys] := by
        rw [List.set_append_left _ _ (by rw [List.length_set]; exact il), List.set_set]
      rw [se] at e2
      refine ⟨_, rfl, ?_⟩
      show ∃ y h3 acc, e__law_shape_1 (m__law_shape n) _ _ = .ok y h3 ∧ _
      refine ⟨x, z :: c2 :: (g.set i (pv p2 q2) ++ [Cell.lst ys]), ys, ?_, ?_, by omega, ys ++ [x], p2, q2, c2, ?_, by simp [yl], ?_, ?_, by omega, ?_, pn2⟩
      · unfold e__law_shape_1
        rw [← dm] at e2
        generalize g.set i (pv p' q') ++ [Cell.lst ys] = G0 at *
        generalize g.set i (pv p2 q2) ++ [Cell.lst ys] = G1 at *
        simp [wipeE, e2]
      · show (g.set i (pv p2 q2) ++ [Cell.lst ys])[g.length]? = _
        rw [show g.length = (g.set i (pv p2 q2)).length by rw [List.length_set], get_last]
      · show z :: c2 :: (g.set i (pv p2 q2) ++ [Cell.lst ys]).set g.length _ = _
        rw [show g.length = (g.set i (pv p2 q2)).length by rw [List.length_set], set_last]
      · intro y hy'
        rcases List.mem_append.mp hy' with h | h
        · exact hy y h
        · rw [List.mem_singleton] at h
          rw [h]
          exact sx
      · rw [List.map_append, List.flatten_append, List.length_append]
        simp only [List.map_cons, List.map_nil, List.flatten_cons, List.flatten_nil, List.append_nil]
        omega
      · rw [List.map_append, List.sum_append, List.map_cons, List.map_nil, List.sum_cons, List.sum_nil, Int.add_zero, Int.mul_add]
        omega
    · rintro h' ⟨ys, p', q', c', rfl, yl, hy, hq, hb, hw, hp'⟩
      rw [ll] at yl hb
      exact ⟨ys, p', q', c', rfl, yl, hy, hq, hb, hw, hp'⟩
    · exact ⟨[], p, q, c, by rw [set_same hg]; rfl, rfl, by simp, by simp, by omega, by simp, hp⟩
  obtain ⟨ys, p', q', c', e0, yl, hy, hq, hb, hw, hp'⟩ := main
  refine ⟨ys, p', q', c', ?_, yl, hy, hq, by omega, hw, hp'⟩
  rw [ap_mFz0, ap_mLc, iRange1_of (j := (m : Nat)) (k := m) (h' := z :: c :: g) rfl rfl (by omega)]
  show fzR _ (lcM _ _ _ _ _ _ _ _ _) = _
  rw [e0, fzR_at (xs := ys) (by
    show (g.set i (pv p' q') ++ [Cell.lst ys])[g.length]? = _
    rw [show g.length = (g.set i (pv p' q')).length by rw [List.length_set], get_last]) (Nat.le_refl _) (loL_of fun y h => (hy y h).lo _) (show okB (z :: c :: g).length (z :: c :: g) (z :: c' :: (g.set i (pv p' q') ++ [Cell.lst ys])) from ⟨.inl rfl, .inr (hp'.lo _), okB_set pv_lo⟩)]
  congr 1
  show z :: c' :: (g.set i (pv p' q') ++ [Cell.lst ys]).take g.length = _
  rw [show g.length = (g.set i (pv p' q')).length by rw [List.length_set], List.take_left]
end
theorem hshape {t : List Nat} (tg : Tgn t) : ∀ (e n : Nat), 1 ≤ e → e ≤ n → e ≤ 5 → ShOkH t e n
  | 0, _, h, _, _ => by omega
  | e + 1, 0, _, h, _ => by omega
  | e + 1, n + 1, _, en, e5 => fun b p q F i z c g hg q1 hp => by
    rw [m__law_shape_succ]
    have il : i < g.length := (List.getElem?_eq_some_iff.mp hg).1
    obtain ⟨u, c1, e1, u1, p1⟩ := draw_call (b := b + 19 + 20 * (q - 1)) (z := z) (x := c) (t := g) (m := 10) (hp.mono (by omega)) (by omega) (by omega)
    have hg1 : (g.set i (pv p (q - 1)))[i]? = some (pv p (q - 1)) := get_setC hg
    have gl : getL (.ref (i + 1 + 1)) (.int 1) (z :: c1 :: g) = some (.int (q : Nat)) := getL_ref (xs := [.int (p : Nat), .int (q : Nat)]) hg (by omega) rfl
    have pt : putD (.ref (i + 1 + 1)) (.int 1) (.int ((q : Nat) - 1)) (z :: c1 :: g) = some (z :: c1 :: g.set i (pv p (q - 1))) := by
      have hh : (z :: c1 :: g)[i + 1 + 1]? = some (.lst [.int (p : Nat), .int (q : Nat)]) := hg
      rw [putD_ref hh (by omega) (by simp), show ((q : Nat) : Int) - 1 = ((q - 1 : Nat) : Int) by omega]
      rfl
    have Gs : ∀ v, (g.set i (pv p (q - 1))).set i v = g.set i v := fun v => List.set_set ..
    have gll : (g.set i (pv p (q - 1))).length = g.length := List.length_set
    have rix1 : dIx (.ref (i + 1 + 1)) (.int 1) (z :: c1 :: g.set i (pv p (q - 1))) = .ok (.int ((q - 1 : Nat) : Int)) (z :: c1 :: g.set i (pv p (q - 1))) := dIx_ref (xs := [.int (p : Nat), .int ((q - 1 : Nat) : Int)]) hg1 (by omega) rfl
    have rix0 : dIx (.ref (i + 1 + 1)) (.int 0) (z :: c1 :: g.set i (pv p (q - 1))) = .ok (.int (p : Nat)) (z :: c1 :: g.set i (pv p (q - 1))) := dIx_ref (xs := [.int (p : Nat), .int ((q - 1 : Nat) : Int)]) hg1 (by omega) rfl
    have a1 : (msSet 5 (mCall 2 (m__law_take) (mCons (mVar 0) (mCons (mC (.int 10)) (mNil))))) [some (.ref 1), some (.str t), some (.ref (i + 1 + 1)), some (.int (F : Nat)), some (.int ((e + 1 : Nat) : Int)), none, none, none, none, none, none] (z :: c :: g) = .nx [some (.ref 1), some (.str t), some (.ref (i + 1 + 1)), some (.int (F : Nat)), some (.int ((e + 1 : Nat) : Int)), some (.int (u : Nat)), none, none, none, none, none] (z :: c1 :: g) := by
      generalize ((e + 1 : Nat) : Int) = d at *
      simp [e1]
    have a2 : (msAugI dISub (mVar 2) (mC (.int 1)) (mC (.int 1))) [some (.ref 1), some (.str t), some (.ref (i + 1 + 1)), some (.int (F : Nat)), some (.int ((e + 1 : Nat) : Int)), some (.int (u : Nat)), none, none, none, none, none] (z :: c1 :: g) = .nx [some (.ref 1), some (.str t), some (.ref (i + 1 + 1)), some (.int (F : Nat)), some (.int ((e + 1 : Nat) : Int)), some (.int (u : Nat)), none, none, none, none, none] (z :: c1 :: g.set i (pv p (q - 1))) := by
      generalize ((e + 1 : Nat) : Int) = d at *
      simp [gl, pt]
    by_cases leaf : e + 1 = 1 ∨ u < 4 ∨ q - 1 < 9
    · -- a leaf
      have cond : (mOr (mTb (mOp (dEq false) (mVar 4) (mC (.int 1)))) (mOr (mTb (mOp dLt (mVar 5) (mC (.int 4)))) (mTb (mOp dLt (mOp dIx (mVar 2) (mC (.int 1))) (mC (.int 9)))))) [some (.ref 1), some (.str t), some (.ref (i + 1 + 1)), some (.int (F : Nat)), some (.int ((e + 1 : Nat) : Int)), some (.int (u : Nat)), none, none, none, none, none] (z :: c1 :: g.set i (pv p (q - 1))) = .ok true (z :: c1 :: g.set i (pv p (q - 1))) := by
        generalize g.set i (pv p (q - 1)) = G at *
        by_cases q1 : e + 1 = 1
        · have q1' : ((e + 1 : Nat) : Int) = 1 := by omega
          rw [q1']
          simp
        · have q1' : ¬ ((e + 1 : Nat) : Int) = 1 := by omega
          generalize ((e + 1 : Nat) : Int) = d at *
          by_cases q2 : u < 4
          · have q2' : (u : Int) < 4 := by omega
            simp [q1', q2, q2']
          · have q2' : ¬ (u : Int) < 4 := by omega
            have q3 : ((q - 1 : Nat) : Int) < 9 := by omega
            generalize ((q - 1 : Nat) : Int) = rr at *
            simp [q1', q2, q2', rix1, q3]
      by_cases row : p < F
      · have cr : (mTb (mOp dLt (mOp dIx (mVar 2) (mC (.int 0))) (mVar 3))) [some (.ref 1), some (.str t), some (.ref (i + 1 + 1)), some (.int (F : Nat)), some (.int ((e + 1 : Nat) : Int)), some (.int (u : Nat)), none, none, none, none, none] (z :: c1 :: g.set i (pv p (q - 1))) = .ok true (z :: c1 :: g.set i (pv p (q - 1))) := by
          have row' : (p : Int) < (F : Nat) := by omega
          generalize g.set i (pv p (q - 1)) = G at *
          generalize ((e + 1 : Nat) : Int) = d at *
          simp [rix0, row, row']
        refine ⟨.tup [.str kRow, .tup []], p, q - 1, c1, callC_len rfl ?_ (by simp), .row (by simp) (by simp), ?_, .inl (by omega), ?_, p1.mono (by omega)⟩
        · unfold B__law_shape
          rw [ap_fnM]
          simp only [List.map_cons, List.map_nil, List.length_cons, List.length_nil, List.cons_append, List.nil_append, Nat.reduceAdd, Nat.reduceSub, List.replicate]
          refine stN a1 (stN a2 (stR (h' := z :: c1 :: g.set i (pv p (q - 1))) ?_))
          rw [ap_msIf, cond, bindS_ok]
          show msCons _ _ _ _ = _
          refine stRS ?_
          rw [ap_msIf, cr, bindS_ok]
          simp [kRow]
        · show q - 1 + (_ :: ((innerD _).map (partsD e)).flatten).length = q
          rw [innerD_row]
          simp
          omega
        · show (p : Int) + (F : Int) * ((innerD (.tup [.str kRow, .tup []])).map (weightD e)).sum = _
          rw [innerD_row]
          simp
      · have hg2 : getL (.ref (i + 1 + 1)) (.int 0) (z :: c1 :: g.set i (pv p (q - 1))) = some (.int (p : Nat)) := getL_ref (xs := [.int (p : Nat), .int ((q - 1 : Nat) : Int)]) hg1 (by omega) rfl
        have pt2 : putD (.ref (i + 1 + 1)) (.int 0) (.int ((p : Nat) - (F : Nat))) (z :: c1 :: g.set i (pv p (q - 1))) = some (z :: c1 :: g.set i (pv (p - F) (q - 1))) := by
          have hh : (z :: c1 :: g.set i (pv p (q - 1)))[i + 1 + 1]? = some (.lst [.int (p : Nat), .int ((q - 1 : Nat) : Int)]) := hg1
          rw [putD_ref hh (by omega) (by simp), show ((p : Nat) : Int) - (F : Nat) = ((p - F : Nat) : Int) by omega]
          show some (z :: c1 :: (g.set i (pv p (q - 1))).set i _) = _
          rw [Gs]
          rfl
        obtain ⟨s, c3, e3, s1, s6, sn, ss, p3⟩ := one_call (b := b + 9 + 20 * (q - 1)) (z := z) (c := c1) (g := g.set i (pv (p - F) (q - 1))) tg (p1.mono (by omega))
        have cr : (mTb (mOp dLt (mOp dIx (mVar 2) (mC (.int 0))) (mVar 3))) [some (.ref 1), some (.str t), some (.ref (i + 1 + 1)), some (.int (F : Nat)), some (.int ((e + 1 : Nat) : Int)), some (.int (u : Nat)), none, none, none, none, none] (z :: c1 :: g.set i (pv p (q - 1))) = .ok false (z :: c1 :: g.set i (pv p (q - 1))) := by
          have row' : ¬ (p : Int) < (F : Nat) := by omega
          generalize g.set i (pv p (q - 1)) = G at *
          generalize ((e + 1 : Nat) : Int) = d at *
          simp [rix0, row, row']
        refine ⟨.tup [.str kOne, .str s], p - F, q - 1, c3, callC_len rfl ?_ (by simp), .one s1 s6 sn ss, by rw [parts_one]; simp; omega, .inl (by omega), ?_, p3.mono (by omega)⟩
        · unfold B__law_shape
          rw [ap_fnM]
          simp only [List.map_cons, List.map_nil, List.length_cons, List.length_nil, List.cons_append, List.nil_append, Nat.reduceAdd, Nat.reduceSub, List.replicate]
          refine stN a1 (stN a2 (stR (h' := z :: c3 :: g.set i (pv (p - F) (q - 1))) ?_))
          rw [ap_msIf, cond, bindS_ok]
          show msCons _ _ _ _ = _
          refine stS (env2 := [some (.ref 1), some (.str t), some (.ref (i + 1 + 1)), some (.int (F : Nat)), some (.int ((e + 1 : Nat) : Int)), some (.int (u : Nat)), none, none, none, none, none]) (h2 := z :: c1 :: g.set i (pv p (q - 1))) ?_ ?_
          · rw [ap_msIf, cr, bindS_ok]
            rfl
          clear cond cr a1 a2 rix1 rix0
          generalize g.set i (pv p (q - 1)) = G at *
          generalize g.set i (pv (p - F) (q - 1)) = G1 at *
          generalize ((e + 1 : Nat) : Int) = d at *
          refine stS (env2 := [some (.ref 1), some (.str t), some (.ref (i + 1 + 1)), some (.int (F : Nat)), some (.int d), some (.int (u : Nat)), none, none, none, none, none]) (h2 := z :: c1 :: G1) (by simp [hg2, pt2]) ?_
          simp [e3, kOne]
        · show ((p - F : Nat) : Int) + (F : Int) * 1 = _
          omega
    · have e0 : 1 ≤ e := by omega
      have u4 : ¬ u < 4 := fun h => leaf (.inr (.inl h))
      have u4' : ¬ (u : Int) < 4 := by omega
      have q9 : 9 ≤ q - 1 := by omega
      have ok := hshape tg e n e0 (by omega) (by omega)
      have dm : ((e + 1 : Nat) : Int) - 1 = (e : Nat) := by omega
      have a3 : ∀ s1 : MS, (msIf (mOr (mTb (mOp (dEq false) (mVar 4) (mC (.int 1)))) (mOr (mTb (mOp dLt (mVar 5) (mC (.int 4)))) (mTb (mOp dLt (mOp dIx (mVar 2) (mC (.int 1))) (mC (.int 9)))))) s1 (msNil)) [some (.ref 1), some (.str t), some (.ref (i + 1 + 1)), some (.int (F : Nat)), some (.int ((e + 1 : Nat) : Int)), some (.int (u : Nat)), none, none, none, none, none] (z :: c1 :: g.set i (pv p (q - 1))) = .nx [some (.ref 1), some (.str t), some (.ref (i + 1 + 1)), some (.int (F : Nat)), some (.int ((e + 1 : Nat) : Int)), some (.int (u : Nat)), none, none, none, none, none] (z :: c1 :: g.set i (pv p (q - 1))) := fun s1 => by
        have q1' : ¬ ((e + 1 : Nat) : Int) = 1 := by omega
        have q2' : ¬ ((q - 1 : Nat) : Int) < 9 := by omega
        generalize g.set i (pv p (q - 1)) = G at *
        generalize ((e + 1 : Nat) : Int) = d at *
        generalize ((q - 1 : Nat) : Int) = rr at *
        simp [q1', rix1, q2', u4, u4']
      clear rix1 rix0
      by_cases u3 : u = 4
      · obtain ⟨x, p', q', c2, e2, sx, rq, rb, rw2, p2⟩ := ok b p (q - 1) F i z c1 (g.set i (pv p (q - 1))) hg1 (by omega) (p1.mono (by omega))
        rw [Gs] at e2
        refine ⟨.tup [.str kMany, x], p', q', c2, callC_len rfl ?_ (by simp), .many sx, ?_, .inr (by omega), ?_, p2⟩
        · unfold B__law_shape
          rw [ap_fnM]
          simp only [List.map_cons, List.map_nil, List.length_cons, List.length_nil, List.cons_append, List.nil_append, Nat.reduceAdd, Nat.reduceSub, List.replicate]
          refine stN a1 (stN a2 (stN (a3 _) (stR (h' := z :: c2 :: g.set i (pv p' q')) ?_)))
          rw [← dm] at e2
          clear a1 a2 a3
          generalize g.set i (pv p (q - 1)) = G at *
          generalize ((e + 1 : Nat) : Int) = d at *
          subst u3
          simp [e2, kMany]
        · show q' + (_ :: ((innerD _).map (partsD e)).flatten).length = q
          rw [innerD_many]
          simp
          omega
        · show (p' : Int) + (F : Int) * ((innerD (.tup [.str kMany, x])).map (weightD e)).sum = _
          rw [innerD_many]
          simpa using rw2
      · have u3' : ¬ (u : Int) = 4 := by omega
        by_cases u5 : u = 5
        · obtain ⟨hi, c2, e2, hi1, p2⟩ := draw_call (b := b + 18 + 20 * (q - 1)) (z := z) (x := c1) (t := g.set i (pv p (q - 1))) (m := 5) (p1.mono (by omega)) (by omega) (by omega)
          obtain ⟨lo, c3, e3, lo1, p3⟩ := draw_call (b := b + 17 + 20 * (q - 1)) (z := z) (x := c2) (t := g.set i (pv p (q - 1))) (m := (hi : Nat) + 1) (p2.mono (by omega)) (by omega) (by omega)
          obtain ⟨x, p', q', c4, e4, sx, rq, rb, rw2, p4⟩ := ok b p (q - 1) (F * hi) i z c3 (g.set i (pv p (q - 1))) hg1 (by omega) (p3.mono (by omega))
          rw [Gs] at e4
          have cm : cMul (F : Nat) (hi : Nat) = true := by
            simp only [cMul, Bool.or_eq_true, Bool.and_eq_true, decide_eq_true_eq]
            right
            omega
          have fm : (F : Int) * (hi : Int) = ((F * hi : Nat) : Int) := by simp
          refine ⟨.tup [.str kTim, x, .int (lo : Nat), .int (hi : Nat)], p', q', c4, callC_len rfl ?_ (by simp), .times sx (by omega) (by omega) (by omega), ?_, .inr (by omega), ?_, p4⟩
          · unfold B__law_shape
            rw [ap_fnM]
            simp only [List.map_cons, List.map_nil, List.length_cons, List.length_nil, List.cons_append, List.nil_append, Nat.reduceAdd, Nat.reduceSub, List.replicate]
            refine stN a1 (stN a2 (stN (a3 _) ?_))
            rw [← dm] at e4
            clear a1 a2 a3
            generalize g.set i (pv p (q - 1)) = G at *
            generalize ((e + 1 : Nat) : Int) = d at *
            subst u5
            refine stN (env2 := [some (.ref 1), some (.str t), some (.ref (i + 1 + 1)), some (.int (F : Nat)), some (.int d), some (.int (5 : Nat)), none, none, none, none, none]) (h2 := z :: c1 :: G) (by simp) ?_
            refine stR (h' := z :: c4 :: g.set i (pv p' q')) ?_
            rw [ap_msIf, show mTb (mOp (dEq false) (mVar 5) (mC (.int 5))) [some (.ref 1), some (.str t), some (.ref (i + 1 + 1)), some (.int (F : Nat)), some (.int d), some (.int (5 : Nat)), none, none, none, none, none] (z :: c1 :: G) = .ok true (z :: c1 :: G) by simp, bindS_ok]
            show msCons _ _ _ _ = _
            refine stS (env2 := [some (.ref 1), some (.str t), some (.ref (i + 1 + 1)), some (.int (F : Nat)), some (.int d), some (.int (5 : Nat)), some (.int (hi : Nat)), none, none, none, none]) (h2 := z :: c2 :: G) (by simp [e2]) ?_
            refine stS (env2 := [some (.ref 1), some (.str t), some (.ref (i + 1 + 1)), some (.int (F : Nat)), some (.int d), some (.int (5 : Nat)), some (.int (hi : Nat)), some (.int (lo : Nat)), none, none, none]) (h2 := z :: c3 :: G) (by simp [e3]) ?_
            have dm2 : dMul (.int (F : Nat)) (.int (hi : Nat)) (z :: c3 :: G) = .ok (.int ((F * hi : Nat) : Int)) (z :: c3 :: G) := by rw [dMul_int, if_pos cm, fm]
            clear cm fm rw2
            generalize ((F * hi : Nat) : Int) = fh at *
            simp [-dMul_int, dm2, e4, kTim]
          · show q' + (_ :: ((innerD _).map (partsD e)).flatten).length = q
            rw [innerD_times]
            simp
            omega
          · show (p' : Int) + (F : Int) * ((hi : Int) * ((innerD (.tup [.str kTim, x, .int (lo : Nat), .int (hi : Nat)])).map (weightD e)).sum) = _
            rw [innerD_times, ← Int.mul_assoc, fm]
            simpa using rw2
        · have u5' : ¬ (u : Int) = 5 := by omega
          obtain ⟨w, c2, e2, w1, p2⟩ := draw_call (b := b + 18 + 20 * (q - 1)) (z := z) (x := c1) (t := g.set i (pv p (q - 1))) (m := 3) (p1.mono (by omega)) (by omega) (by omega)
          obtain ⟨ys, p', q', c3, lp, h1, h2, h3, h4, h5, h6⟩ := parts_comp ok e0 (by omega) (i := i) (p := p) (q := q - 1) (F := F) (m := 1 + w) (u := u) (b := b) dm (z := z) (c := c2) (g := g.set i (pv p (q - 1))) hg1 q9 (by omega) (p2.mono (by omega))
          rw [Gs] at lp
          have wc : (1 : Int) + (w : Nat) = ((1 + w : Nat) : Int) := by omega
          have tx : ∀ h : IH, bTupleX [.fl ys] h = .ok (.tup ys) h := fun h => rfl
          have pre : ∀ {r : R D}, ((msCons (msIf (mTb (mOp dLt (mVar 5) (mC (.int 8)))) (msRet (mTup (mCons (mC (.str [114, 111, 119])) (mCons (mVar 9) (mNil))))) (msNil))
    (msRet (mTup (mCons (mC (.str [101, 105, 116, 104, 101, 114])) (mCons (mVar 9) (mNil)))))) [some (.ref 1), some (.str t), some (.ref (i + 1 + 1)), some (.int (F : Nat)), some (.int ((e + 1 : Nat) : Int)), some (.int (u : Nat)), none, none, some (.int ((1 + w : Nat) : Int)), some (.tup ys), none] (z :: c3 :: g.set i (pv p' q'))).fin = r → B__law_shape (m__law_shape n) [.ref 1, .str t, .ref (i + 1 + 1), .int (F : Nat), .int ((e + 1 : Nat) : Int)] (z :: c :: g) = r := fun hr => by
            unfold B__law_shape
            rw [ap_fnM]
            simp only [List.map_cons, List.map_nil, List.length_cons, List.length_nil, List.cons_append, List.nil_append, Nat.reduceAdd, Nat.reduceSub, List.replicate]
            refine stN a1 (stN a2 (stN (a3 _) ?_))
            clear a1 a2 a3
            generalize g.set i (pv p (q - 1)) = G at *
            generalize g.set i (pv p' q') = G2 at *
            generalize ((e + 1 : Nat) : Int) = d at *
            refine stN (env2 := [some (.ref 1), some (.str t), some (.ref (i + 1 + 1)), some (.int (F : Nat)), some (.int d), some (.int (u : Nat)), none, none, none, none, none]) (h2 := z :: c1 :: G) (by clear hr lp; simp [u3, u3']) ?_
            refine stN (env2 := [some (.ref 1), some (.str t), some (.ref (i + 1 + 1)), some (.int (F : Nat)), some (.int d), some (.int (u : Nat)), none, none, none, none, none]) (h2 := z :: c1 :: G) (by clear hr lp; simp [u5, u5']) ?_
            refine stN (env2 := [some (.ref 1), some (.str t), some (.ref (i + 1 + 1)), some (.int (F : Nat)), some (.int d), some (.int (u : Nat)), none, none, some (.int ((1 + w : Nat) : Int)), none, none]) (h2 := z :: c2 :: G) (by clear hr lp; rw [← wc]; simp [e2]) ?_
            refine stN (env2 := [some (.ref 1), some (.str t), some (.ref (i + 1 + 1)), some (.int (F : Nat)), some (.int d), some (.int (u : Nat)), none, none, some (.int ((1 + w : Nat) : Int)), some (.tup ys), none]) (h2 := z :: c3 :: G2) ?_ hr
            clear hr wc
            generalize mFz (mLc (iRange1 (mCons (mVar 8) (mNil))) (gSet 10) mYes (e__law_shape_1 (m__law_shape n)) [10]) = CC at *
            generalize ((1 + w : Nat) : Int) = ww at *
            simp [lp, tx]
          by_cases u8 : u < 8
          · have u8' : (u : Int) < 8 := by omega
            refine ⟨.tup [.str kRow, .tup ys], p', q', c3, callC_len rfl (pre ?_) (by simp), .row (by omega) h2, ?_, .inr (by omega), ?_, h6⟩
            · generalize ((1 + w : Nat) : Int) = ww at *
              generalize ((e + 1 : Nat) : Int) = d at *
              simp [u8, u8', kRow]
            · show q' + (_ :: ((innerD _).map (partsD e)).flatten).length = q
              rw [innerD_row, List.length_cons]
              omega
            · show (p' : Int) + (F : Int) * ((innerD (.tup [.str kRow, .tup ys])).map (weightD e)).sum = _
              rw [innerD_row]
              exact h5
          · have u8' : ¬ (u : Int) < 8 := by omega
            refine ⟨.tup [.str kEit, .tup ys], p', q', c3, callC_len rfl (pre ?_) (by simp), .eit (by omega) (by omega) h2, ?_, .inr (by omega), ?_, h6⟩
            · generalize ((1 + w : Nat) : Int) = ww at *
              generalize ((e + 1 : Nat) : Int) = d at *
              simp [u8, u8', kEit]
            · show q' + (_ :: ((innerD _).map (partsD e)).flatten).length = q
              rw [innerD_eit, List.length_cons]
              omega
            · show (p' : Int) + (F : Int) * ((innerD (.tup [.str kEit, .tup ys])).map (weightD e)).sum = _
              rw [innerD_eit]
              exact h5
end NR

set_option Elab.async false
set_option linter.all false
set_option maxRecDepth 100000
set_option maxHeartbeats 4000000
/-! The tongue of a book that is written. -/
namespace NR
open PySem PySem.Spec PyProof.Rows L2
def plainSigns : List Nat := allSigns.take 94
def quoteSigns : List Nat := [60, 62, 92, 32, 97, 98, 110]
theorem plain_nd : plainSigns.Nodup := by decide
theorem quoteS_nd : quoteSigns.Nodup := by decide
theorem plainS_sub : ∀ x ∈ plainSigns, x ∈ allSigns ∧ x ≠ 10 := by decide
theorem quoteS_sub : ∀ x ∈ quoteSigns, x ∈ allSigns ∧ x ≠ 10 := by decide
theorem tongue_loop {b : Nat} {z c1 : Cell} {g : IH} {R mo : List Nat} {k : Nat} (nR : R.Nodup) (kR : k + 1 ≤ R.length) (rl : R.length ≤ 1000) (k5 : k ≤ 4) (p1 : Pn (b + (k + 1)) c1) :
    ∃ f c' x y rs, forM (.st (intsFrom 0 (1 + (k : Int)).toNat)) (gSet 4) b__law_tongue_1 ((Src.st (intsFrom 0 (1 + (k : Int)).toNat)).many (z :: c1 :: g) + 1) 0 [some (.ref 1), some (.str R), some (.str mo), some (.str []), none, none] (z :: c1 :: g) =
      .nx [some (.ref 1), some (.str rs), some (.str mo), some (.str f), x, y] (z :: c' :: g) ∧ f.length = k + 1 ∧ f.Nodup ∧ (∀ x ∈ f, x ∈ R) ∧ Pn b c' := by
  have lk : (intsFrom 0 (1 + (k : Int)).toNat).length = k + 1 := by simp [intsFrom]; omega
  refine for_inv (P := fun i env h => ∃ (f rs : List Nat) (c' : Cell) (x y : Option D), env = [some (.ref 1), some (.str rs), some (.str mo), some (.str f), x, y] ∧ h = z :: c' :: g ∧ f.length = i ∧ rs.length + i = R.length ∧ f.Nodup ∧ rs.Nodup ∧ (∀ k ∈ f, k ∉ rs) ∧ (∀ k ∈ f, k ∈ R) ∧ (∀ k ∈ rs, k ∈ R) ∧ i ≤ k + 1 ∧ Pn (b + (k + 1 - i)) c')
    (Rs := fun r => ∃ f c' x y rs, r = .nx [some (.ref 1), some (.str rs), some (.str mo), some (.str f), x, y] (z :: c' :: g) ∧ f.length = k + 1 ∧ f.Nodup ∧ (∀ x ∈ f, x ∈ R) ∧ Pn b c')
    ⟨[], R, c1, none, none, rfl, rfl, rfl, by simp, by simp, nR, by simp, by simp, fun c hc => hc, by omega, p1⟩ ?_ ?_
  · rintro i d env h hd ⟨f, rs, c', x, y, rfl, rfl, lf, lr, nf, nr, dj, s1, s2, i6, p⟩
    have hi : i < k + 1 := by
      have := (List.getElem?_eq_some_iff.mp hd).1
      omega
    refine ⟨_, rfl, ?_⟩
    obtain ⟨u, c2, e2, u1, p2⟩ := draw_call (b := b + (k + 1 - (i + 1))) (z := z) (x := c') (t := g) (m := rs.length) (p.mono (by omega)) (by omega) (by omega)
    have hu : u < rs.length := by omega
    have hc : rs[u]? = some rs[u] := List.getElem?_eq_getElem hu
    generalize rs[u] = q at hc
    have hkm : q ∈ rs := List.mem_of_getElem? hc
    have b1 : ∀ h, bLen [.str rs] h = .ok (.int (rs.length : Nat)) h := fun h => bLen_str (by omega)
    have b2 : ∀ h, dIx (.str rs) (.int (u : Nat)) h = .ok (.str [q]) h := fun h => dIx_str (by omega) (by simpa using hc) (by omega)
    have b3 : ∀ h, dAdd (.str f) (.str [q]) h = .ok (.str (f ++ [q])) h := fun h => dAdd_str (by simp; omega)
    have b4 : ∀ h, sliceD (.str rs) none (some (u : Nat)) h = .ok (.str (rs.take u)) h := fun h => by rw [sliceD_str (by omega), cutN_to (by omega)]; simp
    have b5 : ∀ h, sliceD (.str rs) (some ((u : Nat) + 1)) none h = .ok (.str (rs.drop (u + 1))) h := fun h => by rw [sliceD_str (by omega), cutN_from (by omega)]; congr 2
    have b6 : ∀ h, dAdd (.str (rs.take u)) (.str (rs.drop (u + 1))) h = .ok (.str (rs.eraseIdx u)) h := fun h => by
      rw [dAdd_str, erase_cut]
      rw [List.length_take, List.length_drop]
      omega
    unfold b__law_tongue_1
    simp only [ap_msCons, ap_msSet, ap_msAug, ap_mCall, ap_mCons, ap_mNil, ap_mVar, ap_mB, ap_mOp, ap_mFz_slice, ap_mFz_op, ap_mSlice, ap_moNone, ap_moSome, ap_mC, bind_ok, bindS_ok, then_nx, List.set_cons_zero, List.set_cons_succ, List.getElem?_cons_zero, List.getElem?_cons_succ, b1, e2, b2, b3, b4, b5, b6, dAdd_int, fz_str, Nx_nx]
    refine ⟨f ++ [q], rs.eraseIdx u, c2, _, _, rfl, rfl, by simp; omega, ?_, ?_, nodup_erase nr _, ?_, ?_, fun j hj => s2 j ((List.eraseIdx_sublist _ _).subset hj), by omega, p2⟩
    · rw [List.length_eraseIdx, if_pos (by omega)]
      omega
    · rw [List.nodup_append]
      exact ⟨nf, by simp, fun a ha j hj => by rw [List.mem_singleton] at hj; subst hj; exact fun z => dj a ha (z ▸ hkm)⟩
    · intro a ha
      rcases List.mem_append.mp ha with ha | ha
      · exact fun z => dj a ha ((List.eraseIdx_sublist _ _).subset z)
      · rw [List.mem_singleton] at ha
        subst ha
        exact not_mem_erase nr hc
    · intro a ha
      rcases List.mem_append.mp ha with ha | ha
      · exact s1 a ha
      · rw [List.mem_singleton] at ha
        subst ha
        exact s2 a hkm
  · rintro env h ⟨f, rs, c', x, y, rfl, rfl, lf, lr, nf, nr, dj, s1, s2, i6, p⟩
    rw [lk] at lf
    exact ⟨f, c', x, y, rs, rfl, lf, nf, s1, p.mono (by omega)⟩
theorem tgn_put {f mo : List Nat} {a k : Nat} (fl : f.length = k + 1) (k5 : k ≤ 4) (nf : f.Nodup) (sub : ∀ x ∈ f, x ∈ allSigns ∧ x ≠ 10) (hm : mo = [] ∨ mo = [10]) : Tgn (f.take a ++ mo ++ f.drop a) := by
  have e : f.take a ++ f.drop a = f := List.take_append_drop a f
  have hl := congrArg List.length e
  rw [List.length_append] at hl
  rcases hm with rfl | rfl
  · rw [List.append_nil, e]
    exact ⟨by omega, by omega, nf, fun x hx => (sub x hx).1⟩
  · refine ⟨by simp only [List.length_append, List.length_singleton]; omega, by simp only [List.length_append, List.length_singleton]; omega, ?_, fun x hx => ?_⟩
    · have n10 : 10 ∉ f := fun z => (sub 10 z).2 rfl
      have pm : (f.take a ++ [10] ++ f.drop a).Perm (10 :: f) := by
        rw [List.append_assoc]
        have q : (f.take a ++ 10 :: f.drop a).Perm (10 :: (f.take a ++ f.drop a)) := List.perm_middle
        rw [e] at q
        exact q
      exact pm.nodup_iff.mpr (List.nodup_cons.mpr ⟨n10, nf⟩)
    · rw [List.mem_append, List.mem_append, List.mem_singleton] at hx
      rcases hx with (hx | rfl) | hx
      · exact (sub x (List.mem_of_mem_take hx)).1
      · decide
      · exact (sub x (List.mem_of_mem_drop hx)).1
theorem tongue_call {b : Nat} {z c : Cell} {g : IH} (hp : Pn (b + 8) c) : ∃ t c', callC 1 m__law_tongue [.ref 1] (z :: c :: g) = .ok (.str t) (z :: c' :: g) ∧ Tgn t ∧ Pn b c' := by
  obtain ⟨u, c1, e1, u1, p1⟩ := draw_call (b := b + 7) (z := z) (x := c) (t := g) (m := 2) (hp.mono (by omega)) (by omega) (by omega)
  obtain ⟨k, c2, e2, k1, p2⟩ := draw_call (b := b + 6) (z := z) (x := c1) (t := g) (m := 5) (p1.mono (by omega)) (by omega) (by omega)
  have s94 : ∀ h : IH, sliceD (.str allSigns) none (some (-1)) h = .ok (.str plainSigns) h := fun h => by
    rw [sliceD_str (by decide)]
    rfl
  have main : ∀ (R mo : List Nat), R.Nodup → 5 ≤ R.length → R.length ≤ 100 → (∀ x ∈ R, x ∈ allSigns ∧ x ≠ 10) → (mo = [] ∨ mo = [10]) → mo.length ≤ 1 → ∃ t c', ((msCons (msSet 3 (mC (.str [])))
    (msCons (msFor (iRange1 (mCons (mOp dAdd (mC (.int 1)) (mCall 2 (m__law_take) (mCons (mVar 0) (mCons (mC (.int 5)) (mNil))))) (mNil))) (gSet 4) b__law_tongue_1)
    (msCons (msSet 5 (mCall 2 (m__law_take) (mCons (mVar 0) (mCons (mOp dAdd (mB bLen (mCons (mVar 3) (mNil))) (mC (.int 1))) (mNil)))))
    (msRet (mFz (mOp dAdd (mFz (mOp dAdd (mFz (mSlice (mVar 3) (moNone) (moSome (mVar 5)))) (mVar 2))) (mFz (mSlice (mVar 3) (moSome (mVar 5)) (moNone))))))))) [some (.ref 1), some (.str R), some (.str mo), none, none, none] (z :: c1 :: g)).fin = .ok (.str t) (z :: c' :: g) ∧ Tgn t ∧ Pn b c' := fun R mo nR R5 Rl sub hm ml => by
    obtain ⟨f, c3, x, y, rs, ef, fl, nf, fs, p3⟩ := tongue_loop (b := b + 1) (z := z) (c1 := c2) (g := g) (R := R) (mo := mo) (k := k) nR (by omega) (by omega) (by omega) (p2.mono (by omega))
    obtain ⟨a, c4, e4, a1, p4⟩ := draw_call (b := b) (z := z) (x := c3) (t := g) (m := (f.length : Nat) + 1) (p3.mono (by omega)) (by omega) (by omega)
    have bl : ∀ h, bLen [.str f] h = .ok (.int (f.length : Nat)) h := fun h => bLen_str (by omega)
    have st : ∀ h, sliceD (.str f) none (some (a : Nat)) h = .ok (.str (f.take a)) h := fun h => by rw [sliceD_str (by omega), cutN_to (by omega)]; simp
    have sf : ∀ h, sliceD (.str f) (some (a : Nat)) none h = .ok (.str (f.drop a)) h := fun h => by rw [sliceD_str (by omega), cutN_from (by omega)]; simp
    have tl := List.length_take_le a f
    have dl : (f.drop a).length ≤ f.length := by rw [List.length_drop]; omega
    have a1 : ∀ h, dAdd (.str (f.take a)) (.str mo) h = .ok (.str (f.take a ++ mo)) h := fun h => dAdd_str (by omega)
    have a2 : ∀ h, dAdd (.str (f.take a ++ mo)) (.str (f.drop a)) h = .ok (.str (f.take a ++ mo ++ f.drop a)) h := fun h => dAdd_str (by rw [List.length_append]; omega)
    have tg := tgn_put (a := a) fl (by omega) nf (fun x hx => sub x (fs x hx)) hm
    refine ⟨f.take a ++ mo ++ f.drop a, c4, ?_, tg, p4⟩
    refine stN (env2 := [some (.ref 1), some (.str R), some (.str mo), some (.str []), none, none]) (h2 := z :: c1 :: g) (by simp) ?_
    refine stN (env2 := [some (.ref 1), some (.str rs), some (.str mo), some (.str f), x, y]) (h2 := z :: c3 :: g) ?_ ?_
    · rw [ap_msFor]
      simp [e2, show -10000000 ≤ 1 + (k : Int) ∧ 1 + (k : Int) ≤ 10000000 by omega, ef]
    · generalize f.take a ++ mo ++ f.drop a = R3 at *
      generalize f.take a ++ mo = R2 at *
      generalize f.take a = R1 at *
      generalize f.drop a = R0 at *
      simp [bl, e4, st, sf, a1, a2]
  by_cases q : u = 0
  · subst q
    obtain ⟨t, c', e, tg, p⟩ := main quoteSigns [10] quoteS_nd (by decide) (by decide) quoteS_sub (.inr rfl) (by simp)
    refine ⟨t, c', callC_pen0 rfl ?_, tg, p⟩
    unfold m__law_tongue
    rw [ap_fnM]
    simp only [List.map_cons, List.map_nil, List.length_cons, List.length_nil, List.cons_append, List.nil_append, Nat.reduceAdd, Nat.reduceSub, List.replicate]
    refine stN (env2 := [some (.ref 1), some (.str plainSigns), none, none, none, none]) (h2 := z :: c :: g) (by simp [signs_call, s94]) ?_
    refine stN (env2 := [some (.ref 1), some (.str plainSigns), some (.str []), none, none, none]) (h2 := z :: c :: g) (by simp) ?_
    refine stN (env2 := [some (.ref 1), some (.str quoteSigns), some (.str [10]), none, none, none]) (h2 := z :: c1 :: g) (by
      have e1' : callC 2 m__law_take [.ref 1, .int 2] (z :: c :: g) = .ok (.int 0) (z :: c1 :: g) := e1
      simp [e1', quoteSigns]) e
  · obtain ⟨t, c', e, tg, p⟩ := main plainSigns [] plain_nd (by decide) (by decide) plainS_sub (.inl rfl) (by simp)
    refine ⟨t, c', callC_pen0 rfl ?_, tg, p⟩
    unfold m__law_tongue
    rw [ap_fnM]
    simp only [List.map_cons, List.map_nil, List.length_cons, List.length_nil, List.cons_append, List.nil_append, Nat.reduceAdd, Nat.reduceSub, List.replicate]
    refine stN (env2 := [some (.ref 1), some (.str plainSigns), none, none, none, none]) (h2 := z :: c :: g) (by simp [signs_call, s94]) ?_
    refine stN (env2 := [some (.ref 1), some (.str plainSigns), some (.str []), none, none, none]) (h2 := z :: c :: g) (by simp) ?_
    refine stN (env2 := [some (.ref 1), some (.str plainSigns), some (.str []), none, none, none]) (h2 := z :: c1 :: g) (by simp [e1, q]) e
end NR

set_option Elab.async false
set_option linter.all false
set_option maxRecDepth 100000
set_option maxHeartbeats 4000000
namespace NR
open PySem PySem.Spec PyProof.Rows L2
/-! ### instances of classes -/
def putFD (f : Str) (d : D) : List (Str × D) → List (Str × D)
  | [] => [(f, d)]
  | (g, x) :: r => if g = f then (g, d) :: r else (g, x) :: putFD f d r
/-- the fields of an instance of a class -/
def insAt (c : Str) (h : IH) : D → Option (List (Str × D))
  | .ref n => match h[n]? with
    | some (.ins c' fs) => if c' = c then some fs else none
    | _ => none
  | _ => none
section
variable {G : Cf} {et : List Addr} {H : Hp}
theorem DenK.look : ∀ {fs : List (Str × D)} {ws : List (Str × V)}, DenK id G et H fs ws → ∀ f : Str, match fs.lookup f with | some d => ∃ v, ws.lookup f = some v ∧ Den G et H d v | none => ws.lookup f = none
  | [], ws, h, f => by
    have : ws = [] := by simpa using h.1
    subst this
    rfl
  | (g, d) :: fs, ws, h, f => by
    obtain ⟨h1, h2⟩ := h
    cases ws with
    | nil => simp at h1
    | cons w ws =>
      obtain ⟨g', v⟩ := w
      simp only [List.map_cons, List.cons.injEq, id] at h1
      obtain ⟨rfl, h1⟩ := h1
      simp only [List.map_cons] at h2
      rw [DenL] at h2
      obtain ⟨v0, vs, e, hd, hl⟩ := h2
      simp only [List.cons.injEq] at e
      obtain ⟨rfl, rfl⟩ := e
      have ih := DenK.look (fs := fs) (ws := ws) ⟨h1, hl⟩ f
      rw [List.lookup_cons, List.lookup_cons]
      cases q : f == g' with
      | true => exact ⟨v, rfl, hd⟩
      | false => exact ih
theorem DenK.put {d : D} {v : V} (hd : Den G et H d v) (f : Str) : ∀ {fs : List (Str × D)} {ws : List (Str × V)}, DenK id G et H fs ws → DenK id G et H (putFD f d fs) (putF f v ws)
  | [], ws, h => by
    have : ws = [] := by simpa using h.1
    subst this
    refine ⟨rfl, ?_⟩
    show DenL G et H [d] [v]
    rw [DenL]
    exact ⟨v, [], rfl, hd, by rw [DenL]⟩
  | (g, x) :: fs, ws, h => by
    obtain ⟨h1, h2⟩ := h
    cases ws with
    | nil => simp at h1
    | cons w ws =>
      obtain ⟨g', y⟩ := w
      simp only [List.map_cons, List.cons.injEq, id] at h1
      obtain ⟨rfl, h1⟩ := h1
      simp only [List.map_cons] at h2
      rw [DenL] at h2
      obtain ⟨v0, vs, e, hx, hl⟩ := h2
      simp only [List.cons.injEq] at e
      obtain ⟨rfl, rfl⟩ := e
      have ih := DenK.put hd f (fs := fs) (ws := ws) ⟨h1, hl⟩
      unfold putFD putF
      by_cases q : g' = f
      · rw [if_pos q, if_pos q]
        refine ⟨by simp [h1], ?_⟩
        show DenL G et H (d :: fs.map (·.2)) (v :: ws.map (·.2))
        rw [DenL]
        exact ⟨_, _, rfl, hd, hl⟩
      · rw [if_neg q, if_neg q]
        refine ⟨by simp [ih.1], ?_⟩
        show DenL G et H (x :: (putFD f d fs).map (·.2)) (y :: (putF f v ws).map (·.2))
        rw [DenL]
        exact ⟨_, _, rfl, hx, ih.2⟩
theorem insAt_den {c : Str} {h : IH} {x : D} {fs : List (Str × D)} {v : V} (R : HRel G et h H) (hv : Den G et H x v) (e : insAt c h x = some fs) : ∃ n a dx ws, x = .ref n ∧ h[n]? = some (.ins c fs) ∧ et[n]? = some a ∧ v = .ref a ∧ H a = some (.ins (G.C c) dx ws) ∧ DenK id G et H fs ws := by
  unfold insAt at e
  split at e
  · rename_i n
    split at e
    · rename_i c' fs' hn
      split at e
      · rename_i ec
        subst ec
        cases e
        rw [Den] at hv
        obtain ⟨a, ha, rfl⟩ := hv
        obtain ⟨dx, ws, h1, h2⟩ := R.cell n _ a hn ha
        exact ⟨n, a, dx, ws, rfl, hn, ha, rfl, h1, h2⟩
      · cases e
    · cases e
  · cases e
end
def mFld (c f : Str) (mo : ME) : ME := fun env h => (mo env h).bind fun x h1 => match (insAt c h1 x).bind (List.lookup f) with
  | some d => .ok d h1
  | none => .no
def putAtF (c f : Str) (d : D) (h : IH) (x : D) : Option IH := match x with
  | .ref n => match insAt c h (.ref n) with
    | some fs => if fs.length ≤ 100 then some (h.set n (.ins c (putFD f d fs))) else none
    | none => none
  | _ => none
def msSetF (c f : Str) (mo me : ME) : MS := fun env h => (me env h).bindS env fun d h1 => (mo env h1).bindS env fun x h2 => match putAtF c f d h2 x with
  | some h3 => .nx env h3
  | none => .no
section
variable {X : Cx} {G : Cf} {W : WX} {o e value : Expr} {c f : Str} {pos pos' : Pos} {mo me : ME}
theorem me_fld (hK : X.K = G.K) (k : Cls X.K (G.C c)) (na : NoAttr X.K (G.C c) f) (ho : PE X o (tE G W mo)) (hb : attributeBase o f X.env (eval o X.env) = eval o X.env := by rfl) : PE X (.Attribute o f pos) (tE G W (mFld c f mo)) := PE.imp (pe_fld ho hb) fun σ H Q ⟨et, env, h, hE, hH, hP⟩ => by
  refine ⟨et, env, h, hE, hH, (Pst.of_bind hP).imp fun et1 H1 h1 x p e hr q v hv => ?_⟩
  cases hi : insAt c h1 x with
  | none =>
    rw [hi] at q
    exact q.elim
  | some fs =>
    rw [hi] at q
    obtain ⟨n, a, dx, ws, rfl, hn, ha, rfl, h3, h4⟩ := insAt_den hr hv hi
    have hl := h4.look f
    have q : Pst G et1 H1 (match fs.lookup f with | some d => R.ok d h1 | none => R.no) _ _ := q
    cases hf : fs.lookup f with
    | none =>
      rw [hf] at q
      exact q.elim
    | some d =>
      rw [hf] at q hl
      obtain ⟨v, e1, e2⟩ := hl
      exact ⟨a, _, dx, ws, v, rfl, h3, k, na, e1, q et1 H1 List.prefix_rfl (Ext.refl _) hr v e2⟩
theorem DenK.len {et : List Addr} {H : Hp} {fs : List (Str × D)} {ws : List (Str × V)} (h : DenK id G et H fs ws) : ws.length = fs.length := by
  have := congrArg List.length h.1
  simpa using this
theorem ms_fld (hK : X.K = G.K) (k : Cls X.K (G.C c)) (na : NoAttr X.K (G.C c) f) (ho : PE X o (tE G W mo)) (hv : PE X value (tE G W me)) (hs : swapsWith value (some (.Attribute o f pos')) pos.line X.env = pure false := by rfl) : PS X (.Assign [.Attribute o f pos'] value pos) (tS G W (msSetF c f mo me)) := PS.imp (ps_fld ho hv hs) fun D σ H ⟨et, env, h, hE, hH, hP⟩ => by
  refine ⟨et, env, h, hE, hH, (PstS.of_bind hE hP).imp fun et1 H1 h1 d p e hr q v hv => ?_⟩
  refine ⟨et1, env, h1, hE.mono p e, hr, (PstS.of_bind (hE.mono p e) q).imp fun et2 H2 h2 x p2 e2 hr2 q2 u hu => ?_⟩
  unfold putAtF at q2
  cases x with
  | ref n =>
    dsimp only at q2
    cases hi : insAt c h2 (.ref n) with
    | none =>
      rw [hi] at q2
      exact q2.elim
    | some fs =>
      rw [hi] at q2
      dsimp only at q2
      split at q2
      · rename_i h3 hq
        split at hq
        · rename_i hl
          cases hq
          obtain ⟨n', a, dx, ws, en, hn, ha, rfl, h3, h4⟩ := insAt_den hr2 hu hi
          cases en
          have hv2 := hv.mono p2 e2
          refine ⟨a, _, dx, ws, rfl, h3, k, na, (by rw [h4.len]; omega), ?_⟩
          have ex : Ext H2 (upd H2 a (.ins (G.C c) dx (putF f v ws))) := Ext.mut h3 True.intro
          exact q2 et2 _ σ List.prefix_rfl ex (hr2.set hn ha rfl h3 True.intro ⟨dx, _, upd_same, ((DenK.put hv2 f h4).mono List.prefix_rfl ex)⟩) (((hE.mono p e).mono p2 e2).mono List.prefix_rfl ex)
        · cases hq
      · exact q2.elim
  | _ => exact q2.elim
end
/-! ### methods -/
def tMthS (C : Addr) (m : Str) (sp : Sp) (E : L2.St → XK) (ta : TE) (t : TA) : TE := fun σ H Q => ta σ H fun x H1 => ∃ a dx fs, x = .ref a ∧ H1 a = some (.ins C dx fs) ∧ fs.lookup m = none ∧ t σ H1 fun vs H2 => sp (x :: vs) H2 Q (E σ)
section
variable {X : Cx} {CX : CXT} {k : Nat} {f C : Addr} {fd : FuncData} {ps : List Str} {sp : Sp} {E : L2.St → XK} {x m : Str} {p pos apos : Pos} {e o : Expr} {es : List Expr} {ta : TE} {t : TA}
theorem pe_mthS {pl : Sem Bool} (he : PE X o ta) (c : Cls X.K C) (hm : Meth X.K C m f) (F : FnOk X.prog X.w X.K X.mg X.base CX k f fd ps sp) (hr : Room k X.A) (hb : Binds X.K fd ps []) (hx : ∀ σ, PassesAt CX X σ (E σ)) (ha : PA X (e :: es) t)
    (hst : starEach (e :: es) X.env = (false, eval e X.env) :: starEach es X.env := by rfl) (hpl : (backTo pos (starEach es X.env)).any (·.1) = false := by rfl)
    (ht : eval (.Call (.Attribute o m apos) (e :: es) [] pos) X.env = (do
      let ov ← eval o X.env
      standAt apos.atName
      let (f, first) ← holding [ov] (getMethod ov m pl)
      callWith pos f first (backTo pos (starEach (e :: es) X.env)) (backToKw pos (keywordEach [] X.env))) := by rfl) :
    PE X (.Call (.Attribute o m apos) (e :: es) [] pos) (tMthS C m sp E ta t) := by
  refine ⟨fun pins s σ H Q I h => ?_⟩
  refine PySem.W.methodCall_KW (pl := pl) (thn (he.run pins s σ H _ I h) fun u s1 ⟨x, H1, I1, rx, a, dx, fs, ex, ea, l, q⟩ => ?_) ht
  subst ex
  obtain rfl : u = Value.ref a := rx
  refine getmeth_ok I1 ea c hm l ?_
  refine PySem.W.callWith_K (first := [.ref a]) (h₀ := X.base) I.ok.mod.kin hm.kp (thn (ha.run pos pins s1 σ H1 _ I1 q) fun us s2 ⟨vs, H2, I2, r, q2⟩ => ⟨I2.kIn, ?_⟩) hst hpl
  exact run_fnS (us := .ref a :: us) (vs := .ref a :: vs) F hr hb (hx σ) I2 (.cons rfl r) q2
theorem pe_mth0S {pl : Sem Bool} (he : PE X o ta) (c : Cls X.K C) (hm : Meth X.K C m f) (F : FnOk X.prog X.w X.K X.mg X.base CX k f fd ps sp) (hr : Room k X.A) (hb : Binds X.K fd ps []) (hx : ∀ σ, PassesAt CX X σ (E σ))
    (ht : eval (.Call (.Attribute o m apos) [] [] pos) X.env = (do
      let ov ← eval o X.env
      standAt apos.atName
      let (f, first) ← holding [ov] (getMethod ov m pl)
      callWith pos f first (backTo pos (starEach [] X.env)) (backToKw pos (keywordEach [] X.env))) := by rfl) :
    PE X (.Call (.Attribute o m apos) [] [] pos) (tMthS C m sp E ta tNil) := by
  refine ⟨fun pins s σ H Q I h => ?_⟩
  refine PySem.W.methodCall_KW (pl := pl) (thn (he.run pins s σ H _ I h) fun u s1 ⟨x, H1, I1, rx, a, dx, fs, ex, ea, l, q⟩ => ?_) ht
  subst ex
  obtain rfl : u = Value.ref a := rx
  refine getmeth_ok I1 ea c hm l ?_
  exact PySem.W.callWith_K0 (first := [.ref a]) I1.kIn hm.kp (run_fnS (us := [.ref a]) (vs := [.ref a]) F hr hb (hx σ) I1 (.cons rfl .nil) q)
/-! a new instance -/
def tMkS (C : Addr) (sp : Sp) (E : L2.St → XK) (t : TA) : TE := fun σ H Q => t σ H fun vs H1 => ∀ x dx, H1 x = none → H1 dx = none → dx ≠ x →
  sp (.ref x :: vs) (upd (upd H1 dx (.own x)) x (.ins C dx [])) (fun v H2 => v = .non ∧ Q (.ref x) H2) (E σ)
theorem run_mkS {pins : List (Addr × Obj)} {σ : L2.St} {H : Hp} {s : Shared} {Q : VK} {us : List Value} {vs : List V} (M : Mk X.K C f) (F : FnOk X.prog X.w X.K X.mg X.base CX k f fd ps sp) (hr : Room (k + 1) X.A) (hb : Binds X.K fd ps [])
    (hx : PassesAt CX X σ (E σ)) (I : Inv X pins σ H s) (r : Vals vs us)
    (h : ∀ x dx, H x = none → H dx = none → dx ≠ x → sp (.ref x :: vs) (upd (upd H dx (.own x)) x (.ins C dx [])) (fun v H2 => v = .non ∧ Q (.ref x) H2) (E σ)) :
    wpAny (model X.prog X.w) X.A (call (.ref C) us) (EP X pins σ Q) X.xe s := by
  have hq := h (s.heap.objs.size + 1) s.heap.objs.size (I.hok.fresh (Nat.le_succ _)) (I.hok.fresh (Nat.le_refl _)) (Nat.ne_of_lt (Nat.lt_succ_self _))
  have I2 := Inv.made (C := C) I
  have r2 : Vals (V.ref (s.heap.objs.size + 1) :: vs) (Value.ref (s.heap.objs.size + 1) :: us) := .cons rfl r
  have hl : (Value.ref (s.heap.objs.size + 1) :: us).length = ps.length := by
    have e := r2.length
    rw [F.len _ _ _ _ hq] at e
    exact e.symm
  have b := hb _ (Value.ref (s.heap.objs.size + 1) :: us) I2.kIn (by rw [List.append_nil]; exact hl)
  rw [List.append_nil] at b
  refine wpAny_call (make_map (f := f) I.kIn M.makes M.init (beq_iff_eq.mp M.fn) (codeAny_mono (F.run _ X.stack _ _ ⟨Value.ref (s.heap.objs.size + 1) :: us, []⟩ (Value.ref (s.heap.objs.size + 1) :: us) _ _ (E σ) (hr.make C us [])
    (I2.env0.make C us []) b r2 hq) fun r s' hq' => ?_))
  cases r with
  | error e => exact hx pins _ _ e s' I2 hq'
  | ok fl =>
    cases fl with
    | ret u =>
      obtain ⟨v, H', I3, rv, ev, q3⟩ := I2.after hq'
      subst ev
      exact ⟨rv, ⟨V.ref (s.heap.objs.size + 1), H', I3, rfl, q3⟩⟩
    | next => exact False.elim hq'
    | brk => exact False.elim hq'
    | cont => exact False.elim hq'
theorem pe_mkS (M : Mk X.K C f) (F : FnOk X.prog X.w X.K X.mg X.base CX k f fd ps sp) (hr : Room (k + 1) X.A) (hg : Gl X x) (hm : X.mg x = some (.ref C)) (hb : Binds X.K fd ps []) (hx : ∀ σ, PassesAt CX X σ (E σ))
    (ha : PA X (e :: es) t) (hdb : (x == ("__debug__" : Str)) = false := by decide) (he : starEach (e :: es) X.env = (false, eval e X.env) :: starEach es X.env := by rfl) (hpl : (backTo pos (starEach es X.env)).any (·.1) = false := by rfl) :
    PE X (.Call (.Name x p) (e :: es) [] pos) (tMkS C sp E t) := by
  refine ⟨fun pins s σ H Q I h => ?_⟩
  refine wpAny_Call_Name_kw (ld_glob I hg hm ?_ hdb)
  refine PySem.W.callWith_K (h₀ := X.base) I.ok.mod.kin M.kp (thn (ha.run pos pins s σ H _ I h) fun us s1 ⟨vs, H1, I1, r, q⟩ => ⟨I1.kIn, ?_⟩) he hpl
  exact run_mkS M F hr hb (hx σ) I1 r q
theorem pe_mk0S (M : Mk X.K C f) (F : FnOk X.prog X.w X.K X.mg X.base CX k f fd ps sp) (hr : Room (k + 1) X.A) (hg : Gl X x) (hm : X.mg x = some (.ref C)) (hb : Binds X.K fd ps []) (hx : ∀ σ, PassesAt CX X σ (E σ))
    (hdb : (x == ("__debug__" : Str)) = false := by decide) : PE X (.Call (.Name x p) [] [] pos) (tMkS C sp E tNil) := by
  refine ⟨fun pins s σ H Q I h => ?_⟩
  refine wpAny_Call_Name_kw (ld_glob I hg hm ?_ hdb)
  exact PySem.W.callWith_K0 I.kIn M.kp (run_mkS (us := []) M F hr hb (hx σ) I .nil h)
end
/-- a method that is read, its level -/
structure Mtd (P : Program) (w : World) (K : PySem.W.Frag) (mg : Str → Option Value) (base : Heap) (G : Cf) (c m : Str) (k n : Nat) (fm : MF) : Prop where
  ex : ∃ f fd ps, FnOk P w K mg base (L2.CX P w) k f fd ps (FSp G n fm) ∧ Cls K (G.C c) ∧ Meth K (G.C c) m f ∧ Binds K fd ps []
/-- a class that can be made, its __init__ -/
structure Mkd (P : Program) (w : World) (K : PySem.W.Frag) (mg : Str → Option Value) (base : Heap) (G : Cf) (c : Str) (k n : Nat) (fm : MF) : Prop where
  ex : ∃ f fd ps, FnOk P w K mg base (L2.CX P w) k f fd ps (FSp G n fm) ∧ Mk K (G.C c) f ∧ mg c = some (.ref (G.C c)) ∧ Binds K fd ps []
def noLook (m : Str) (fs : List (Str × D)) : Bool := (fs.lookup m).isNone
noncomputable def mMth (c m : Str) (n : Nat) (fm : MF) (mo : ME) (ma : MA) : ME := fun env h => (mo env h).bind fun x h1 => match insAt c h1 x with
  | some fs => if noLook m fs = true then (ma env h1).bind fun ds h2 => callC n fm (x :: ds) h2 else .no
  | none => .no
noncomputable def mNew (c : Str) (n : Nat) (fm : MF) (ma : MA) : ME := fun env h => (ma env h).bind fun ds h1 => (callC n fm (.ref h1.length :: ds) (h1 ++ [.ins c []])).bind fun d h2 => match d with
  | .non => .ok (.ref h1.length) h2
  | _ => .no
theorem Pst.from_old {A : Type} {G : Cf} {et et1 : List Addr} {H H1 : Hp} (p : et <+: et1) (e : Ext H H1) {r : R A} {F : List Addr → Hp → IH → A → Prop} {W : Value → Option Addr → Hp → Prop} (x : Pst G et H r F W) : Pst G et1 H1 r F W := by
  cases r with
  | ok a h => exact fun et' H' p2 e2 hr => x et' H' (p.trans p2) (e.trans e2) hr
  | ex c d h => exact fun et' H' cls dd p2 e2 hr hx => x et' H' cls dd (p.trans p2) (e.trans e2) hr hx
  | no => exact x.elim
section
variable {X : Cx} {G : Cf} {W : WX} {k j n : Nat} {fm : MF} {c m : Str} {p pos apos : Pos} {e o : Expr} {es : List Expr} {mo : ME} {mt : MA}
theorem mth_ok {σ : L2.St} {H : Hp} {Q : VK} {t : TA} (ht : t = tA G W mt) (hx : tE G W (mMth c m n fm mo mt) σ H Q) : tMthS (G.C c) m (FSp G n fm) (WE W) (tE G W mo) t σ H Q := by
  subst ht
  obtain ⟨et, env, h, hE, hH, hP⟩ := hx
  refine ⟨et, env, h, hE, hH, (Pst.of_bind hP).imp fun et1 H1 h1 x p e hr q v hv => ?_⟩
  cases hi : insAt c h1 x with
  | none =>
    rw [hi] at q
    exact q.elim
  | some fs =>
    rw [hi] at q
    dsimp only at q
    split at q
    · rename_i nl
      obtain ⟨i, a, dx, ws, rfl, hn, ha, rfl, h3, h4⟩ := insAt_den hr hv hi
      have hl := h4.look m
      have nl : fs.lookup m = none := by
        unfold noLook at nl
        simpa using nl
      rw [nl] at hl
      refine ⟨a, dx, ws, rfl, h3, hl, et1, env, h1, hE.mono p e, hr, (Pst.of_bind q).imp fun et2 H2 h2 ds p2 e2 hr2 q2 vs hvs => ?_⟩
      refine FSp.of_call (ds := .ref i :: ds) ?_ hr2 q2
      rw [DenL]
      exact ⟨_, _, rfl, hv.mono p2 e2, hvs⟩
    · exact q.elim
theorem me_mth (F : Mtd X.prog X.w X.K X.mg X.base G c m k n fm) (hr : Room j X.A) (hj : k ≤ j) (tk : Takes X W) (ho : PE X o (tE G W mo)) (ha : PA X (e :: es) (tA G W mt)) {pl : Sem Bool}
    (hst : starEach (e :: es) X.env = (false, eval e X.env) :: starEach es X.env := by rfl) (hpl : (backTo pos (starEach es X.env)).any (·.1) = false := by rfl)
    (ht : eval (.Call (.Attribute o m apos) (e :: es) [] pos) X.env = (do
      let ov ← eval o X.env
      standAt apos.atName
      let (f, first) ← holding [ov] (getMethod ov m pl)
      callWith pos f first (backTo pos (starEach (e :: es) X.env)) (backToKw pos (keywordEach [] X.env))) := by rfl) : PE X (.Call (.Attribute o m apos) (e :: es) [] pos) (tE G W (mMth c m n fm mo mt)) := by
  obtain ⟨f, fd, ps, h1, h2, h3, h4⟩ := F.ex
  exact PE.imp (pe_mthS (pl := pl) ho h2 h3 h1 (hr.mono hj) h4 (passAt tk) ha hst hpl ht) fun σ H Q x => mth_ok rfl x
theorem me_mth0 (F : Mtd X.prog X.w X.K X.mg X.base G c m k n fm) (hr : Room j X.A) (hj : k ≤ j) (tk : Takes X W) (ho : PE X o (tE G W mo)) {pl : Sem Bool}
    (ht : eval (.Call (.Attribute o m apos) [] [] pos) X.env = (do
      let ov ← eval o X.env
      standAt apos.atName
      let (f, first) ← holding [ov] (getMethod ov m pl)
      callWith pos f first (backTo pos (starEach [] X.env)) (backToKw pos (keywordEach [] X.env))) := by rfl) : PE X (.Call (.Attribute o m apos) [] [] pos) (tE G W (mMth c m n fm mo mNil)) := by
  obtain ⟨f, fd, ps, h1, h2, h3, h4⟩ := F.ex
  refine PE.imp (pe_mth0S (pl := pl) ho h2 h3 h1 (hr.mono hj) h4 (passAt tk) ht) fun σ H Q x => ?_
  have := mth_ok (t := tA G W mNil) rfl x
  unfold tMthS at this ⊢
  obtain ⟨et, env, h, hE, hH, hP⟩ := this
  refine ⟨et, env, h, hE, hH, hP.imp fun et1 H1 h1 x p e hr q v hv => ?_⟩
  obtain ⟨a, dx, fs, e1, e2, e3, et2, env2, h2, hE2, hH2, hP2⟩ := q v hv
  exact ⟨a, dx, fs, e1, e2, e3, hP2 et2 H1 List.prefix_rfl (Ext.refl _) hH2 [] (by rw [DenL])⟩
theorem mk_ok {σ : L2.St} {H : Hp} {Q : VK} (hx : tE G W (mNew c n fm mt) σ H Q) : tMkS (G.C c) (FSp G n fm) (WE W) (tA G W mt) σ H Q := by
  obtain ⟨et, env, h, hE, hH, hP⟩ := hx
  refine ⟨et, env, h, hE, hH, (Pst.of_bind hP).imp fun et1 H1 h1 ds p e hr q vs hvs => ?_⟩
  intro x dx hx hdx ne
  have ex1 : Ext H1 (upd H1 dx (.own x)) := Ext.new hdx
  have r1 : HRel G et1 h1 (upd H1 dx (.own x)) := hr.new hdx
  have hx1 : (upd H1 dx (.own x)) x = none := by rw [upd_ne (Ne.symm ne)]; exact hx
  have ex2 : Ext (upd H1 dx (.own x)) (upd (upd H1 dx (.own x)) x (.ins (G.C c) dx [])) := Ext.new hx1
  have r2 : HRel G (et1 ++ [x]) (h1 ++ [.ins c []]) (upd (upd H1 dx (.own x)) x (.ins (G.C c) dx [])) := r1.push hx1 ⟨dx, [], upd_same, rfl, by
    show DenL G _ _ [] []
    rw [DenL]⟩
  have pf : et1 <+: et1 ++ [x] := List.prefix_append _ _
  have hvs2 := (hvs.mono (List.prefix_rfl (l := et1)) ex1).mono pf ex2
  refine FSp.of_call (ds := .ref h1.length :: ds) (et := et1 ++ [x]) ?_ r2 ?_
  · rw [DenL]
    refine ⟨_, _, rfl, ?_, hvs2⟩
    rw [Den]
    refine ⟨x, ?_, rfl⟩
    rw [← hr.len, List.getElem?_append_right (Nat.le_refl _), Nat.sub_self]
    rfl
  · have q : Pst G et1 H1 ((callC n fm (.ref h1.length :: ds) (h1 ++ [.ins c []])).bind fun d h2 => match d with | .non => R.ok (D.ref h1.length) h2 | _ => .no) _ _ := q
    have q2 := Pst.from_old pf (ex1.trans ex2) (Pst.of_bind q)
    refine q2.imp fun et2 H2 h2 d p2 e2 hr2 q3 v hv => ?_
    cases d with
    | non =>
      have : v = .non := by
        rw [Den] at hv
        exact hv
      refine ⟨this, ?_⟩
      refine q3 et2 H2 List.prefix_rfl (Ext.refl _) hr2 _ ?_
      rw [Den]
      refine ⟨x, ?_, rfl⟩
      obtain ⟨t, rfl⟩ := p2
      rw [← hr.len, List.append_assoc, List.getElem?_append_right (Nat.le_refl _), Nat.sub_self]
      rfl
    | _ => exact q3.elim
theorem me_mk (F : Mkd X.prog X.w X.K X.mg X.base G c k n fm) (hr : Room j X.A) (hj : k + 1 ≤ j) (tk : Takes X W) (ha : PA X (e :: es) (tA G W mt)) (hg : Gl X c := by rfl) (hdb : (c == ("__debug__" : Str)) = false := by decide)
    (he : starEach (e :: es) X.env = (false, eval e X.env) :: starEach es X.env := by rfl) (hpl : (backTo pos (starEach es X.env)).any (·.1) = false := by rfl) : PE X (.Call (.Name c p) (e :: es) [] pos) (tE G W (mNew c n fm mt)) := by
  obtain ⟨f, fd, ps, h1, h2, h3, h4⟩ := F.ex
  exact PE.imp (pe_mkS h2 h1 (hr.mono hj) hg h3 h4 (passAt tk) ha hdb he hpl) fun σ H Q x => mk_ok x
theorem me_mk0 (F : Mkd X.prog X.w X.K X.mg X.base G c k n fm) (hr : Room j X.A) (hj : k + 1 ≤ j) (tk : Takes X W) (hg : Gl X c := by rfl) (hdb : (c == ("__debug__" : Str)) = false := by decide) : PE X (.Call (.Name c p) [] [] pos) (tE G W (mNew c n fm mNil)) := by
  obtain ⟨f, fd, ps, h1, h2, h3, h4⟩ := F.ex
  refine PE.imp (pe_mk0S h2 h1 (hr.mono hj) hg h3 h4 (passAt tk) hdb) fun σ H Q x => ?_
  obtain ⟨et, env, h, hE, hH, hP⟩ := mk_ok (mt := mNil) x
  exact hP et H List.prefix_rfl (Ext.refl _) hH [] (by rw [DenL])
end
/-- what the written part tells of a method, of an __init__ -/
structure MthAt (K : PySem.W.Frag) (C : Addr) (q m : Str) (st : Stmt) (ps : List Str) : Prop where
  ex : ∃ f fd, Fun K m q st f fd ∧ Cls K C ∧ Meth K C m f ∧ Binds K fd ps []
structure InitAt (K : PySem.W.Frag) (mg : Str → Option Value) (C : Addr) (c q : Str) (st : Stmt) (ps : List Str) : Prop where
  ex : ∃ f fd, Fun K "__init__" q st f fd ∧ Mk K C f ∧ mg c = some (.ref C) ∧ Binds K fd ps []
theorem MthAt.mtd {P : Program} {w : World} {K : PySem.W.Frag} {mg : Str → Option Value} {base : Heap} {G : Cf} {c q m : Str} {st : Stmt} {ps : List Str} {k n : Nat} {fm : MF} (d : MthAt K (G.C c) q m st ps) (h : ∀ f fd, Fun K m q st f fd → FnOk P w K mg base (L2.CX P w) k f fd ps (FSp G n fm)) : Mtd P w K mg base G c m k n fm := by
  obtain ⟨f, fd, h1, h2, h3, h4⟩ := d.ex
  exact ⟨f, fd, ps, h f fd h1, h2, h3, h4⟩
theorem InitAt.mkd {P : Program} {w : World} {K : PySem.W.Frag} {mg : Str → Option Value} {base : Heap} {G : Cf} {c q : Str} {st : Stmt} {ps : List Str} {k n : Nat} {fm : MF} (d : InitAt K mg (G.C c) c q st ps) (h : ∀ f fd, Fun K "__init__" q st f fd → FnOk P w K mg base (L2.CX P w) k f fd ps (FSp G n fm)) : Mkd P w K mg base G c k n fm := by
  obtain ⟨f, fd, h1, h2, h3, h4⟩ := d.ex
  exact ⟨f, fd, ps, h f fd h1, h2, h3, h4⟩
/-! ### op= on a field, several fields at once -/
def msAugF (c f : Str) (g : D → D → IH → R D) (mo me : ME) : MS := fun env h => (mo env h).bindS env fun x h1 => match (insAt c h1 x).bind (List.lookup f) with
  | some v => (me env h1).bindS env fun y h2 => (g v y h2).bindS env fun z h3 => match putAtF c f z h3 x with
    | some h4 => .nx env h4
    | none => .no
  | none => .no
section
variable {X : Cx} {G : Cf} {W : WX} {o e value : Expr} {c f : Str} {pos pos' tpos : Pos} {mo me : ME} {r : R2} {g : D → D → IH → R D}
/-- a field is written -/
theorem putAtF_ok {et : List Addr} {H : Hp} {h h' : IH} {x d : D} {u v : V} (hr : HRel G et h H) (hu : Den G et H x u) (hv : Den G et H d v) (q : putAtF c f d h x = some h') : ∃ a dx ws, u = .ref a ∧ H a = some (.ins (G.C c) dx ws) ∧ ws.length < 1000 ∧
    Ext H (upd H a (.ins (G.C c) dx (putF f v ws))) ∧ HRel G et h' (upd H a (.ins (G.C c) dx (putF f v ws))) := by
  unfold putAtF at q
  cases x with
  | ref n =>
    dsimp only at q
    cases hi : insAt c h (.ref n) with
    | none => rw [hi] at q; cases q
    | some fs =>
      rw [hi] at q
      dsimp only at q
      split at q
      · rename_i hl
        cases q
        obtain ⟨n', a, dx, ws, en, hn, ha, rfl, h3, h4⟩ := insAt_den hr hu hi
        cases en
        have ex : Ext H (upd H a (.ins (G.C c) dx (putF f v ws))) := Ext.mut h3 True.intro
        exact ⟨a, dx, ws, rfl, h3, (by rw [h4.len]; omega), ex, hr.set hn ha rfl h3 True.intro ⟨dx, _, upd_same, ((DenK.put hv f h4).mono List.prefix_rfl ex)⟩⟩
      · cases q
  | _ => cases q
theorem ms_augF {op : Operator} (hK : X.K = G.K) (k : Cls X.K (G.C c)) (na : NoAttr X.K (G.C c) f) (hop : OpR X (inplaceOp op) r) (hs : OpS G r g) (ho : PE X o (tE G W mo)) (hv : PE X value (tE G W me)) : PS X (.AugAssign (.Attribute o f tpos) op value pos) (tS G W (msAugF c f g mo me)) := PS.imp (ps_fldaug ho hv hop) fun D σ H ⟨et, env, h, hE, hH, hP⟩ => by
  refine ⟨et, env, h, hE, hH, (PstS.of_bind hE hP).imp fun et1 H1 h1 x p e hr q v hv => ?_⟩
  cases hi : insAt c h1 x with
  | none => rw [hi] at q; exact q.elim
  | some fs =>
    rw [hi] at q
    obtain ⟨n, a, dx, ws, rfl, hn, ha, rfl, h3, h4⟩ := insAt_den hr hv hi
    have hl := h4.look f
    cases hf : fs.lookup f with
    | none =>
      have q : PstS G et1 H1 (match fs.lookup f with | some v => _ | none => RS.no) _ _ := q
      rw [hf] at q
      exact q.elim
    | some d =>
      have q : PstS G et1 H1 (match fs.lookup f with | some v => _ | none => RS.no) _ _ := q
      rw [hf] at q hl
      obtain ⟨w, e1, e2⟩ := hl
      refine ⟨a, _, dx, ws, w, rfl, h3, k, na, e1, et1, env, h1, hE.mono p e, hr, (PstS.of_bind (hE.mono p e) q).imp fun et2 H2 h2 y p2 e2' hr2 q2 u hu => ?_⟩
      refine hs et2 H2 h2 d y w u _ _ (e2.mono p2 e2') hu hr2 ((PstS.of_bind ((hE.mono p e).mono p2 e2') q2).imp fun et3 H3 h3' z p3 e3 hr3 q3 t ht => ?_)
      cases hp : putAtF c f z h3' (.ref n) with
      | none => rw [hp] at q3; exact q3.elim
      | some h5 =>
        rw [hp] at q3
        obtain ⟨a', dx', ws', ea, h6, hl', ex, hr5⟩ := putAtF_ok hr3 ((hv.mono p2 e2').mono p3 e3) ht hp
        cases ea
        exact ⟨dx', ws', h6, hl', q3 et3 _ σ List.prefix_rfl ex hr5 ((((hE.mono p e).mono p2 e2').mono p3 e3).mono List.prefix_rfl ex)⟩
end
/-- fields of the instance in a slot -/
def setFs (c : Str) (i : Nat) : List Str → List D → EV → IH → RS
  | [], [], env, h => .nx env h
  | f :: fs, d :: ds, env, h => match env[i]? with
    | some (some x) => match putAtF c f d h x with
      | some h1 => setFs c i fs ds env h1
      | none => .no
    | _ => .no
  | _, _, _, _ => .no
def msSetTF (c : Str) (fs : List Str) (i : Nat) (me : ME) : MS := fun env h => (me env h).bindS env fun d h1 => match d with
  | .tup ds => if ds.length = fs.length then setFs c i fs ds env h1 else .no
  | _ => .no
def gFld (K : PySem.W.Frag) (to : TE) (f : Str) : TG := fun v σ H Q => to σ H fun x H1 => ∃ a C dx ws, x = .ref a ∧ H1 a = some (.ins C dx ws) ∧ Cls K C ∧ NoAttr K C f ∧ ws.length < 1000 ∧ Q σ (upd H1 a (.ins C dx (putF f v ws)))
section
variable {X : Cx} {G : Cf} {W : WX} {o e value : Expr} {c f : Str} {pos pos' tpos : Pos} {mo me : ME} {to : TE}
theorem pg_fld (ho : PE X o to)
    (ha : ∀ v, assign (.Attribute o f pos) X.env v = (do
      let ov ← holding [v] (eval o X.env)
      standAt pos.atName
      holding [v, ov] (setAttr ov f v)
      release [v, ov] []) := by intro _; rfl) : PG X (.Attribute o f pos) (gFld X.K to f) := by
  refine ⟨fun pins s σ H v u Q I r h => ?_⟩
  rw [ha]
  refine wpAny_bind (wpAny_holding (thn (ho.run pins s σ H _ I h) fun ov s1 ⟨x, H1, I1, r1, a, C, dx, ws, ex, ea, k, n, l, q1⟩ => ?_))
  subst ex
  obtain rfl : ov = Value.ref a := r1
  refine wpAny_bind (wpAny_standAt (wpAny_bind (wpAny_holding (setattr_ok I1 ea k n l r fun s3 I3 => ?_))))
  exact wpAny_release ⟨σ, _, I3, q1⟩
inductive PGF (X : Cx) (G : Cf) (c : Str) (i : Nat) (W : WX) : List Str → List Expr → TGs → Prop
  | nil : PGF X G c i W [] [] gNil
  | cons {f : Str} {fs : List Str} {e : Expr} {es : List Expr} {t : TGs} : NoAttr X.K (G.C c) f → PG X e (gFld X.K (tE G W (mVar i)) f) → PGF X G c i W fs es t → (assignEach (e :: es) X.env).map (·.2) = assign e X.env :: (assignEach es X.env).map (·.2) → PGF X G c i W (f :: fs) (e :: es) (gCons (gFld X.K (tE G W (mVar i)) f) t)
theorem PGF.pgs {i : Nat} {fs : List Str} {es : List Expr} {t : TGs} (h : PGF X G c i W fs es t) : PGs X es t := by
  induction h with
  | nil => exact pgs_nil
  | cons h1 h2 h3 h4 ih => exact pgs_cons h2 ih h4
theorem PGF.run {i : Nat} {fs : List Str} {es : List Expr} {t : TGs} (hK : X.K = G.K) (k : Cls X.K (G.C c)) (h : PGF X G c i W fs es t) {et : List Addr} {H : Hp} {env : EV} {hh : IH} {σ : L2.St} {ds : List D} {vs : List V} {D' : Ends} (hE : EnvR G et H env σ) (hR : HRel G et hh H) (hD : DenL G et H ds vs)
    (q : PstS G et H (setFs c i fs ds env hh) D' W) : t vs σ H D'.nx := by
  induction h generalizing et H hh ds vs with
  | nil =>
    cases ds with
    | nil => rw [denL_nil] at hD; exact ⟨hD, q et H σ List.prefix_rfl (Ext.refl H) hR hE⟩
    | cons _ _ => exact q.elim
  | cons h1 h2 h3 h4 ih =>
    cases ds with
    | nil => exact q.elim
    | cons d ds =>
      obtain ⟨v, ws, rfl, r1, r2⟩ := denL_cons.mp hD
      refine ⟨v, ws, rfl, et, env, hh, hE, hR, ?_⟩
      unfold setFs at q
      unfold mVar
      split at q
      · rename_i x hx
        try rw [hx]
        intro et1 H1 p1 e1 hR1 u hu
        split at q
        · rename_i g hp
          obtain ⟨a, dx, ws', rfl, h6, hl', ex, hr5⟩ := putAtF_ok hR1 hu (r1.mono p1 e1) hp
          exact ⟨a, _, dx, ws', rfl, h6, k, h1, hl', ih ((hE.mono p1 e1).mono List.prefix_rfl ex) hr5 ((r2.mono p1 e1).mono List.prefix_rfl ex) (PstS.weak p1 (e1.trans ex) q)⟩
        · exact q.elim
      · exact q.elim
theorem ms_setTF {i n kk : Nat} {fs : List Str} {es : List Expr} {t : TGs} (hK : X.K = G.K) (hc : X.calm = true) (k : Cls X.K (G.C c)) (h : PGF X G c i W fs es t) (hv : PE X value (tE G W me)) (hln : fs.length = n := by rfl) (hn : (assignEach es X.env).length = n := by rfl) (hst : (assignEach es X.env).findIdx? (·.1) = none := by rfl)
    (hs : swapsWithSole [.Tuple es kk pos'] value pos.line X.env = pure false := by rfl) (hw : swappedStores [.Tuple es kk pos'] value X.env = pure none := by rfl) (h1 : (assignEach [.Tuple es kk pos'] X.env).map (·.2) = [assign (.Tuple es kk pos') X.env] := by rfl) :
    PS X (.Assign [.Tuple es kk pos'] value pos) (tS G W (msSetTF c fs i me)) := PS.imp (ps_asg hv (pg_tup hc h.pgs hn hst) hs hw h1) fun D σ H ⟨et, env, h0, hE, hH, hP⟩ => by
  refine ⟨et, env, h0, hE, hH, (PstS.of_bind hE hP).imp fun et1 H1 h1 d p e hr q v hv => ?_⟩
  cases d with
  | tup ds =>
    obtain ⟨a, vs, rfl, r1, r2⟩ := den_tup.mp hv
    have q : PstS G et1 H1 (if ds.length = fs.length then setFs c i fs ds env h1 else .no) D W := q
    split at q
    · rename_i l
      exact ⟨a, vs, rfl, r1.sq, by rw [r2.len, l, hln], h.run hK k (hE.mono p e) hr r2 q⟩
    · exact q.elim
  | _ => exact q.elim
end
/-- list.clear -/
theorem fClear_ok {G : Cf} : MethS G rClear fClear := by
  intro et H h x v xs vs W Q rx rv R p
  unfold fClear at p
  split at p
  · split at p
    · rename_i n _ ys hx
      obtain ⟨a, us, h2, rfl, h3, h4⟩ := den_list R hx rx
      refine ⟨a, us, rfl, by simpa using rv, h3, ?_⟩
      have ex : Ext H (upd H a (.lst [])) := Ext.mut h3 True.intro
      exact p et _ List.prefix_rfl ex (R.set hx h2 rfl h3 True.intro ⟨_, upd_same, by rw [DenL]⟩) _ (by simp)
    · exact p.elim
  · exact p.elim
end NR

set_option Elab.async false
set_option linter.all false
set_option maxRecDepth 100000
set_option maxHeartbeats 4000000
namespace NR
open PySem PySem.Spec PyProof.Rows L2
/-! equations for fields, methods; comprehensions over lists in the heap -/
section
variable {c f : Str} {m mo me : ME} {ma : MA} {env : EV} {h : IH} {g : D → D → IH → R D} {n : Nat} {fm : MF}
@[simp] theorem ap_mFld : mFld c f mo env h = (mo env h).bind fun x h1 => match (insAt c h1 x).bind (List.lookup f) with
  | some d => .ok d h1
  | none => .no := rfl
@[simp] theorem ap_msSetF : msSetF c f mo me env h = (me env h).bindS env fun d h1 => (mo env h1).bindS env fun x h2 => match putAtF c f d h2 x with
  | some h3 => .nx env h3
  | none => .no := rfl
@[simp] theorem ap_msAugF : msAugF c f g mo me env h = (mo env h).bindS env fun x h1 => match (insAt c h1 x).bind (List.lookup f) with
  | some v => (me env h1).bindS env fun y h2 => (g v y h2).bindS env fun z h3 => match putAtF c f z h3 x with
    | some h4 => .nx env h4
    | none => .no
  | none => .no := rfl
@[simp] theorem ap_mMth : mMth c f n fm mo ma env h = (mo env h).bind fun x h1 => match insAt c h1 x with
  | some fs => if noLook f fs = true then (ma env h1).bind fun ds h2 => callC n fm (x :: ds) h2 else .no
  | none => .no := rfl
@[simp] theorem ap_mNew : mNew c n fm ma env h = (ma env h).bind fun ds h1 => (callC n fm (.ref h1.length :: ds) (h1 ++ [.ins c []])).bind fun d h2 => match d with
  | .non => .ok (.ref h1.length) h2
  | _ => .no := rfl
@[simp] theorem ap_msSetTF {fs : List Str} {i : Nat} : msSetTF c fs i me env h = (me env h).bindS env fun d h1 => match d with
  | .tup ds => if ds.length = fs.length then setFs c i fs ds env h1 else .no
  | _ => .no := rfl
theorem insAt_ref {k : Nat} {fs : List (Str × D)} (e : h[k]? = some (.ins c fs)) : insAt c h (.ref k) = some fs := by
  unfold insAt
  dsimp only
  rw [e]
  exact if_pos rfl
theorem putAtF_ref {k : Nat} {fs : List (Str × D)} {d : D} (e : h[k]? = some (.ins c fs)) (l : fs.length ≤ 100) : putAtF c f d h (.ref k) = some (h.set k (.ins c (putFD f d fs))) := by
  unfold putAtF
  dsimp only
  rw [insAt_ref e]
  exact if_pos l
/-- a comprehension over a source that stays -/
theorem lcF_mapS {it : MI} {gg : MG} {ws : List Nat} {src : Src} {ds : List D} (F : D → D) (hi : it env h = .ok src h) (so : ∀ x, src.ok (h ++ [x]) = true) (sg : ∀ x i, src.get (h ++ [x]) i = ds[i]?) (sm : src.many h = ds.length) (hl : ds.length ≤ 9000000) (lo : ∀ d ∈ ds, D.lo h.length (F d) = true)
    (step : ∀ d ∈ ds, ∃ e1, gg d (wipeE env ws) = some e1 ∧ ∀ x, m e1 (h ++ [x]) = .ok (F d) (h ++ [x])) : mFz (mLc it gg mYes m ws) env h = .ok (.fl (ds.map F)) h := by
  have main : ∀ k i, i + k = ds.length + 1 → i ≤ ds.length → lcM src gg mYes m h.length k i (wipeE env ws) (h ++ [Cell.lst ((ds.take i).map F)]) = .ok (.ref h.length) (h ++ [Cell.lst (ds.map F)]) := by
    intro k
    induction k with
    | zero =>
      intro i e l
      omega
    | succ k ih =>
      intro i e l
      unfold lcM
      rw [if_pos (so _), sg]
      cases hd : ds[i]? with
      | none =>
        have := List.getElem?_eq_none_iff.mp hd
        rw [List.take_of_length_le this]
      | some d =>
        have hi' := (List.getElem?_eq_some_iff.mp hd).1
        obtain ⟨e1, g1, st⟩ := step d (List.mem_of_getElem? hd)
        dsimp only
        rw [g1]
        dsimp only
        unfold mYes
        dsimp only
        rw [st]
        dsimp only
        rw [get_last]
        dsimp only
        rw [if_pos (by rw [List.length_map, List.length_take]; omega), set_app0]
        have : (ds.take i).map F ++ [F d] = (ds.take (i + 1)).map F := by
          rw [List.take_add_one, hd, List.map_append]
          rfl
        rw [this]
        exact ih (i + 1) (by omega) hi'
  rw [ap_mFz0, ap_mLc, hi]
  show fzR h (lcM _ _ _ _ _ _ _ _ _) = _
  have := main (ds.length + 1) 0 (by omega) (Nat.zero_le _)
  rw [List.take_zero, List.map_nil] at this
  rw [sm, this, fzR_at get_last (Nat.le_refl _) (loL_of fun x hx => by obtain ⟨d, hd, rfl⟩ := List.mem_map.mp hx; exact lo d hd) okB_self]
  simp
/-- a list in the heap as a source -/
theorem src_ls {k : Nat} {ds : List D} (e : h[k]? = some (.lst ds)) : (Src.ls k).ok h = true ∧ (∀ i, (Src.ls k).get h i = ds[i]?) ∧ (Src.ls k).many h = ds.length := by
  have l := lstOf_ref e
  refine ⟨?_, fun i => ?_, ?_⟩
  · show (lstOf h (.ref k)).isSome = true
    rw [l]; rfl
  · show (lstOf h (.ref k)).bind _ = _
    rw [l]; rfl
  · show ((lstOf h (.ref k)).getD []).length = _
    rw [l]; rfl
theorem iSeq_ls {k : Nat} {ds : List D} (e1 : me env h = .ok (.ref k) h) (e : h[k]? = some (.lst ds)) : iSeq me env h = .ok (.ls k) h := by
  rw [ap_iSeq, e1, bind_ok]
  dsimp only
  rw [lstOf_ref e]
  rfl
/-- a for over a source that is read of the heap, whose turns leave the heap -/
theorem for_src_nx {it : MI} {gg : MG} {b : MS} {h2 : IH} {src : Src} {ds : List D} (Q : EV → Prop) (e : it env h = .ok src h2) (o : src.ok h2 = true) (ge : ∀ i, src.get h2 i = ds[i]?) (mn : src.many h2 = ds.length) (q0 : Q env)
    (turn : ∀ (i : Nat) (d : D) (env : EV), ds[i]? = some d → Q env → ∃ e1 e2, gg d env = some e1 ∧ b e1 h2 = .nx e2 h2 ∧ Q e2) : ∃ e2, msFor it gg b env h = .nx e2 h2 ∧ Q e2 := by
  have go : ∀ (m i : Nat) (env : EV), Q env → ds.length < m + i → i ≤ ds.length → ∃ e2, forM src gg b m i env h2 = .nx e2 h2 ∧ Q e2 := by
    intro m
    induction m with
    | zero =>
      intro i env q l l2
      omega
    | succ m ih =>
      intro i env q l l2
      unfold forM
      rw [if_pos o, ge i]
      cases hd : ds[i]? with
      | none => exact ⟨env, rfl, q⟩
      | some d =>
        obtain ⟨e1, e2, g1, g2, q2⟩ := turn i d env hd q
        dsimp only
        rw [g1]
        dsimp only
        rw [g2]
        exact ih (i + 1) e2 q2 (by omega) (List.getElem?_eq_some_iff.mp hd).1
  rw [ap_msFor, e, bindS_ok, mn]
  exact go _ 0 env q0 (by omega) (Nat.zero_le _)
end
end NR

set_option Elab.async false
set_option linter.all false
set_option maxRecDepth 100000
set_option maxHeartbeats 4000000
namespace NR
open PySem PySem.Spec PyProof.Rows L2
/-! ### books -/
def RuleOk (t : List Nat) (d : D) : Prop := ∃ (nm : List Nat) (x : D) (e : Nat), d = .tup [.str nm, x] ∧ e ≤ 5 ∧ Sg t e x ∧ (partsD e x).length ≤ 24
theorem RuleOk.lo {t : List Nat} {d : D} (h : RuleOk t d) (n : Nat) : d.lo n = true := by
  obtain ⟨nm, x, e, rfl, _, s, _⟩ := h
  simp [s.lo]
theorem wt_up {t : List Nat} {d : Nat} {x : D} (h : Sg t d x) : ∀ {e : Nat}, d ≤ e → weightD e x = weightD d x := by
  induction h with
  | one => intro e l; cases e with | zero => omega | succ e => rfl
  | @row d l n hl ih =>
    intro e le
    cases e with
    | zero => omega
    | succ e =>
      show ((innerD _).map (weightD e)).sum = ((innerD _).map (weightD d)).sum
      rw [innerD_row, List.map_congr_left fun y hy => ih y hy (by omega)]
  | @eit d l n n1 hl ih =>
    intro e le
    cases e with
    | zero => omega
    | succ e =>
      show ((innerD _).map (weightD e)).sum = ((innerD _).map (weightD d)).sum
      rw [innerD_eit, List.map_congr_left fun y hy => ih y hy (by omega)]
  | @many d p hp ih =>
    intro e le
    cases e with
    | zero => omega
    | succ e =>
      show ((innerD _).map (weightD e)).sum = ((innerD _).map (weightD d)).sum
      rw [innerD_many, List.map_cons, List.map_cons, ih (by omega)]
      rfl
  | @times d p lo hi hp l0 lh h4 ih =>
    intro e le
    cases e with
    | zero => omega
    | succ e =>
      show hi * ((innerD _).map (weightD e)).sum = hi * ((innerD _).map (weightD d)).sum
      rw [innerD_times, List.map_cons, List.map_cons, ih (by omega)]
      rfl
/-- what a rule weighs -/
def wtD : D → Int
  | .tup [_, x] => weightD 5 x
  | _ => 0
theorem wt5 {t : List Nat} {e : Nat} {x : D} (s : Sg t e x) (h : e ≤ 5) : weightD 5 x = weightD e x := by
  exact wt_up s h
def nmD : D → List Nat
  | .tup (.str n :: _) => n
  | _ => []
theorem nm_sh {t : List Nat} {rs : List D} (h : ∀ r ∈ rs, RuleOk t r) : rs.map (fun d => match d with | .tup (x :: _) => x | d => d) = (rs.map nmD).map D.str := by
  rw [List.map_map]
  refine List.map_congr_left fun r hr => ?_
  obtain ⟨nm, x, e, rfl, _⟩ := h r hr
  rfl
/-- a row of rules as the law draws them -/
structure RulesH (t : List Nat) (rs : List D) : Prop where
  ok : ∀ r ∈ rs, RuleOk t r
  nm : ∀ n ∈ rs.map nmD, NmH n
  nd : (rs.map nmD).Nodup
theorem hbook_loop {t : List Nat} (tg : Tgn t) {z : Cell} {g : IH} {H : Nat} : ∀ (ds : List D) (b p q : Nat) (c : Cell) (rs : List D) (x5 x6 x7 : Option D), rs.length + ds.length ≤ 10 → RulesH t rs → (p : Int) + (rs.map wtD).sum = (H : Nat) → Pn (b + 600 * ds.length) c →
    ∃ (p' q' : Nat) (c' : Cell) (rs' : List D) (y5 y6 y7 : Option D), forL (gSet 5) b__law_book_2 ds [some (.ref 1), some (.int (H : Nat)), some (.str t), some (.ref (g.length + 2)), some (.ref (g.length + 3)), x5, x6, x7] (z :: c :: (g ++ [pv p q, .lst rs])) =
      .nx [some (.ref 1), some (.int (H : Nat)), some (.str t), some (.ref (g.length + 2)), some (.ref (g.length + 3)), y5, y6, y7] (z :: c' :: (g ++ [pv p' q', .lst rs'])) ∧ RulesH t rs' ∧ rs'.length = rs.length + ds.length ∧ (p' : Int) + (rs'.map wtD).sum = (H : Nat) ∧ Pn b c'
  | [], b, p, q, c, rs, x5, x6, x7, _, hr, hw, hp => ⟨p, q, c, rs, x5, x6, x7, rfl, hr, rfl, hw, hp⟩
  | d :: ds, b, p, q, c, rs, x5, x6, x7, nl, hr, hw, hp => by
    rw [List.length_cons] at nl hp
    have rl : (z :: c :: (g ++ [pv p 24, .lst rs]))[g.length + 3]? = some (.lst rs) := by
      show (g ++ [pv p 24, Cell.lst rs])[g.length + 1]? = _
      rw [get_app]
      rfl
    have comp := lcF_mapS (h := z :: c :: (g ++ [pv p 24, .lst rs])) (env := [some (.ref 1), some (.int (H : Nat)), some (.str t), some (.ref (g.length + 2)), some (.ref (g.length + 3)), some d, x6, x7]) (it := iSeq (mVar 4)) (gg := gSet 7) (m := e__law_book_1) (ws := [7]) (src := .ls (g.length + 3)) (ds := rs) (fun d => match d with | .tup (x :: _) => x | d => d) (iSeq_ls (by simp) rl) (fun x => (src_ls (get_old rl)).1) (fun x i => (src_ls (get_old rl)).2.1 i) (src_ls rl).2.2 (by omega) (fun r hx => by
        obtain ⟨nm, x, e, rfl, _⟩ := hr.ok r hx
        rfl) (fun r hx => by
        obtain ⟨nm, x, e, rfl, _⟩ := hr.ok r hx
        refine ⟨_, rfl, fun y => ?_⟩
        have i0 : dIx (.tup [.str nm, x]) (.int 0) (z :: c :: (g ++ [pv p 24, .lst rs]) ++ [y]) = .ok (.str nm) (z :: c :: (g ++ [pv p 24, .lst rs]) ++ [y]) := dIx_seq (xs := [.str nm, x]) rfl (by omega) rfl
        unfold e__law_book_1
        generalize z :: c :: (g ++ [pv p 24, .lst rs]) ++ [y] = H1 at *
        simp [wipeE, i0])
    rw [nm_sh hr.ok] at comp
    obtain ⟨nm, c1, e1, nmo, nmn, p1⟩ := name_call (b := b + 600 * ds.length + 580) (ns := rs.map nmD) (z := z) (c := c) (g := g ++ [pv p 24, .lst rs]) (by rw [List.length_map]; omega) (hp.mono (by omega))
    obtain ⟨u, c2, e2, u1, p2⟩ := draw_call (b := b + 600 * ds.length + 570) (z := z) (x := c1) (t := g ++ [pv p 24, .lst rs]) (m := 5) (p1.mono (by omega)) (by omega) (by omega)
    have dm : (1 : Int) + (u : Nat) = ((1 + u : Nat) : Int) := by omega
    obtain ⟨x, p', q', c3, e3, sx, rq, rb, rw2, p3⟩ := hshape tg (1 + u) 24 (by omega) (by omega) (by omega) (b + 600 * ds.length) p 24 1 g.length z c2 (g ++ [pv p 24, .lst rs]) (by rw [get_app0]; rfl) (by omega) (p2.mono (by omega))
    rw [set_app0] at e3
    have e3 : callC 5 (m__law_shape 24) [.ref 1, .str t, .ref (g.length + 2), .int 1, .int ((1 + u : Nat) : Int)] (z :: c2 :: (g ++ [pv p 24, .lst rs])) = .ok x (z :: c3 :: (g ++ [pv p' q', .lst rs])) := e3
    have rk : RuleOk t (.tup [.str nm, x]) := ⟨nm, x, 1 + u, rfl, by omega, sx, by omega⟩
    obtain ⟨p'', q'', c', rs', y5, y6, y7, ih, h1, h2, h3, h4⟩ := hbook_loop tg (z := z) (g := g) (H := H) ds b p' q' c3 (rs ++ [.tup [.str nm, x]]) (some d) (some (.str nm)) x7 (by rw [List.length_append, List.length_singleton]; omega) ⟨fun r h => by
        rcases List.mem_append.mp h with h | h
        · exact hr.ok r h
        · rw [List.mem_singleton] at h
          rw [h]
          exact rk, fun n h => by
        rw [List.map_append] at h
        rcases List.mem_append.mp h with h | h
        · exact hr.nm n h
        · rw [List.map_cons, List.map_nil, List.mem_singleton] at h
          rw [h]
          exact nmo, by
        rw [List.map_append, List.nodup_append]
        refine ⟨hr.nd, by simp, fun a ha j hj => ?_⟩
        rw [List.map_cons, List.map_nil, List.mem_singleton] at hj
        rw [hj]
        exact fun e => nmn (by rw [show nm = nmD (.tup [.str nm, x]) from rfl, ← e]; exact ha)⟩ (by
        rw [List.map_append, List.sum_append, List.map_cons, List.map_nil, List.sum_cons, List.sum_nil]
        show (p' : Int) + (_ + (weightD 5 x + 0)) = _
        rw [wt5 sx (by omega)]
        omega) (p3.mono (by omega))
    refine ⟨p'', q'', c', rs', y5, y6, y7, ?_, h1, by rw [h2, List.length_append, List.length_singleton, List.length_cons]; omega, h3, h4⟩
    rw [forL_cons (e1 := [some (.ref 1), some (.int (H : Nat)), some (.str t), some (.ref (g.length + 2)), some (.ref (g.length + 3)), some d, x6, x7]) rfl]
    have e : b__law_book_2 [some (.ref 1), some (.int (H : Nat)), some (.str t), some (.ref (g.length + 2)), some (.ref (g.length + 3)), some d, x6, x7] (z :: c :: (g ++ [pv p q, .lst rs])) = .nx [some (.ref 1), some (.int (H : Nat)), some (.str t), some (.ref (g.length + 2)), some (.ref (g.length + 3)), some d, some (.str nm), x7] (z :: c3 :: (g ++ [pv p' q', .lst (rs ++ [.tup [.str nm, x]])])) := by
      unfold b__law_book_2
      have pt : putD (.ref (g.length + 2)) (.int 1) (.int 24) (z :: c :: (g ++ [pv p q, .lst rs])) = some (z :: c :: (g ++ [pv p 24, .lst rs])) := by
        have hh : (z :: c :: (g ++ [pv p q, .lst rs]))[g.length + 2]? = some (.lst [.int (p : Nat), .int (q : Nat)]) := by
          show (g ++ [pv p q, Cell.lst rs])[g.length]? = _
          rw [get_app0]
          rfl
        rw [putD_ref hh (by omega) (by simp)]
        show some (z :: c :: (g ++ [pv p q, Cell.lst rs]).set g.length _) = _
        rw [set_app0]
        rfl
      have n1 : (z :: c3 :: (g ++ [pv p' q', .lst rs]))[g.length + 3]? = some (.lst rs) := by
        show (g ++ [pv p' q', Cell.lst rs])[g.length + 1]? = _
        rw [get_app]
        rfl
      have ty2 := tyD_ref rl
      have ap2 := append_at (y := .tup [.str nm, x]) n1 (by omega)
      have s2 : (z :: c3 :: (g ++ [pv p' q', .lst rs])).set (g.length + 3) (.lst (rs ++ [.tup [.str nm, x]])) = z :: c3 :: (g ++ [pv p' q', .lst (rs ++ [.tup [.str nm, x]])]) := by
        show z :: c3 :: (g ++ [pv p' q', Cell.lst rs]).set (g.length + 1) _ = _
        rw [set_app]
        rfl
      rw [s2] at ap2
      have ty3 : tyD "list" (z :: c1 :: (g ++ [pv p 24, .lst rs])) (.ref (g.length + 3)) = true := tyD_ref (xs := rs) (by
        show (g ++ [pv p 24, Cell.lst rs])[g.length + 1]? = _
        rw [get_app]
        rfl)
      clear s2 n1 ih
      generalize (rs.map nmD).map D.str = NS at *
      refine stS (env2 := [some (.ref 1), some (.int (H : Nat)), some (.str t), some (.ref (g.length + 2)), some (.ref (g.length + 3)), some d, x6, x7]) (h2 := z :: c :: (g ++ [pv p 24, .lst rs])) ?_ ?_
      · clear comp e1 e2 e3 ap2 ty2 ty3
        generalize g ++ [pv p q, Cell.lst rs] = G0 at *
        generalize g ++ [pv p 24, Cell.lst rs] = G1 at *
        generalize ((H : Nat) : Int) = HH at *
        simp [pt]
      refine stS (env2 := [some (.ref 1), some (.int (H : Nat)), some (.str t), some (.ref (g.length + 2)), some (.ref (g.length + 3)), some d, some (.str nm), x7]) (h2 := z :: c1 :: (g ++ [pv p 24, .lst rs])) ?_ ?_
      · clear e2 e3 ap2 ty2 ty3 pt
        generalize mFz (mLc (iSeq (mVar 4)) (gSet 7) mYes e__law_book_1 [7]) = CC at *
        generalize g ++ [pv p 24, Cell.lst rs] = G1 at *
        generalize ((H : Nat) : Int) = HH at *
        generalize g.length + 2 = N2 at *
        generalize g.length + 3 = N3 at *
        simp [comp, e1]
      clear comp e1 pt
      generalize g ++ [pv p 24, Cell.lst rs] = G1 at *
      generalize g ++ [pv p' q', Cell.lst (rs ++ [D.tup [.str nm, x]])] = G3 at *
      generalize g ++ [pv p' q', Cell.lst rs] = G2 at *
      generalize ((H : Nat) : Int) = HH at *
      generalize g.length + 2 = N2 at *
      generalize g.length + 3 = N3 at *
      rw [← dm] at e3
      simp [ty3, e2, e3, ap2]
    rw [e, on_nx]
    exact ih
theorem hbook_call {b H : Nat} {z c : Cell} {g : IH} (hp : Pn (b + 4300) c) : ∃ (t : List Nat) (rs : List D) (c' : Cell), callC 2 m__law_book [.ref 1, .int (H : Nat)] (z :: c :: g) = .ok (.tup [.str t, .tup rs]) (z :: c' :: g) ∧ Tgn t ∧ RulesH t rs ∧ rs.length ≤ 6 ∧ (rs.map wtD).sum ≤ (H : Nat) ∧ Pn b c' := by
  obtain ⟨t, c1, e1, tg, p1⟩ := tongue_call (b := b + 4290) (z := z) (c := c) (g := g) (hp.mono (by omega))
  obtain ⟨m, c2, e2, m1, p2⟩ := draw_call (b := b + 4200) (z := z) (x := c1) (t := g ++ [pv H 0, .lst []]) (m := 7) (p1.mono (by omega)) (by omega) (by omega)
  have ll : (intsFrom 0 m).length = m := by simp [intsFrom]
  obtain ⟨p', q', c', rs', y5, y6, y7, lp, h1, h2, h3, h4⟩ := hbook_loop tg (z := z) (g := g) (H := H) (intsFrom 0 m) b H 0 c2 [] none none none (by rw [ll]; simp; omega) ⟨by simp, by simp, by simp⟩ (by simp) (p2.mono (by rw [ll]; omega))
  rw [ll] at h2
  simp only [List.length_nil, Nat.zero_add] at h2
  refine ⟨t, rs', c', callC_pen (c' := c') (g' := [pv p' q', .lst rs']) rfl ?_ (fun k _ => by
    simp
    exact loL_of fun r hr => (h1.ok r hr).lo k) (fun k _ => h4.lo k), tg, h1, by omega, by omega, h4⟩
  unfold m__law_book
  rw [ap_fnM]
  simp only [List.map_cons, List.map_nil, List.length_cons, List.length_nil, List.cons_append, List.nil_append, Nat.reduceAdd, Nat.reduceSub, List.replicate]
  refine stN (env2 := [some (.ref 1), some (.int (H : Nat)), some (.str t), none, none, none, none, none]) (h2 := z :: c1 :: g) (by
    generalize ((H : Nat) : Int) = HH at *
    simp [e1]) ?_
  refine stN (env2 := [some (.ref 1), some (.int (H : Nat)), some (.str t), some (.ref (g.length + 2)), none, none, none, none]) (h2 := z :: c1 :: (g ++ [pv H 0])) (by
    unfold pv
    generalize ((H : Nat) : Int) = HH at *
    simp [newL]) ?_
  refine stN (env2 := [some (.ref 1), some (.int (H : Nat)), some (.str t), some (.ref (g.length + 2)), some (.ref (g.length + 3)), none, none, none]) (h2 := z :: c1 :: (g ++ [pv H 0, .lst []])) (by
    generalize pv H 0 = PV at *
    generalize ((H : Nat) : Int) = HH at *
    simp [newL]) ?_
  refine stN (env2 := [some (.ref 1), some (.int (H : Nat)), some (.str t), some (.ref (g.length + 2)), some (.ref (g.length + 3)), y5, y6, y7]) (h2 := z :: c' :: (g ++ [pv p' q', .lst rs'])) ((for_st (ds := intsFrom 0 m) (h2 := z :: c2 :: (g ++ [pv H 0, .lst []])) (iRange1_of (j := (m : Nat)) (k := m) (by
    generalize g ++ [pv H 0, Cell.lst []] = G0 at *
    generalize ((H : Nat) : Int) = HH at *
    simp [e2]) rfl (by omega))).trans lp) ?_
  have tx : bTupleX [.ref (g.length + 3)] (z :: c' :: (g ++ [pv p' q', .lst rs'])) = .ok (.tup rs') (z :: c' :: (g ++ [pv p' q', .lst rs'])) := bTupleX_ref (by
    show (g ++ [pv p' q', Cell.lst rs'])[g.length + 1]? = _
    rw [get_app]
    rfl)
  generalize g ++ [pv p' q', Cell.lst rs'] = G0 at *
  generalize g.length + 3 = N3 at *
  generalize g.length + 2 = N2 at *
  generalize ((H : Nat) : Int) = HH at *
  simp [tx]
end NR

set_option Elab.async false
set_option linter.all false
set_option maxRecDepth 100000
set_option maxHeartbeats 4000000
namespace NR
open PySem PySem.Spec PyProof.Rows L2
/-- a tongue -/
def Tg (s : List Nat) : Bool := decide (1 ≤ s.length) && decide (s.length ≤ 6) && s.all fun c => decide (c ∈ allSigns) && decide (s.count c ≤ 1)
theorem is_tongue_str {s : List Nat} (l : s.length ≤ 1000) (h : IH) : callC 1 m_is_tongue [.str s] h = .ok (.bl (Tg s)) h := by
  refine callC_same rfl ?_
  have b1 : bLen [.str s] h = .ok (.int (s.length : Nat)) h := bLen_str (by omega)
  by_cases c1 : 1 ≤ s.length
  · by_cases c2 : s.length ≤ 6
    · have loop : ∀ Rs : RS → Prop, ((∃ c ∈ s, ¬ (c ∈ allSigns ∧ s.count c ≤ 1)) → ∀ h', h' = h → Rs (.rt (.bl false) h')) → ((∀ c ∈ s, c ∈ allSigns ∧ s.count c ≤ 1) → ∀ env, Rs (.nx env h)) →
          Rs (forM (.st (sgD s)) (gSet 1) b_is_tongue_1 ((Src.st (sgD s)).many h + 1) 0 [some (.str s), none] h) := by
        intro Rs no yes
        refine forM_inv (P := fun i env h' => h' = h ∧ (∃ x, env = [some (.str s), x]) ∧ ∀ c ∈ s.take i, c ∈ allSigns ∧ s.count c ≤ 1) Rs ?_ ?_ ⟨rfl, ⟨none, rfl⟩, by simp⟩
        · rintro i d env h' hd ⟨rfl, ⟨x, rfl⟩, ok⟩
          obtain ⟨c, hc, rfl⟩ : ∃ c, s[i]? = some c ∧ d = .str [c] := by
            unfold sgD at hd
            rw [List.getElem?_map] at hd
            cases hs : s[i]? with
            | none => rw [hs] at hd; cases hd
            | some c => rw [hs] at hd; exact ⟨c, rfl, (Option.some.inj hd).symm⟩
          refine ⟨_, rfl, ?_⟩
          have hm : c ∈ s := List.mem_of_getElem? hc
          by_cases g : c ∈ allSigns ∧ s.count c ≤ 1
          · have eb : b_is_tongue_1 ([some (.str s), some (.str [c])]) h' = .nx [some (.str s), some (.str [c])] h' := by
              unfold b_is_tongue_1
              simp [c_SIGNS, show (c ∈ ([32, 33, 34, 35, 36, 38, 39, 40, 41, 42, 43, 44, 45, 46, 47, 48, 49, 50, 51, 52, 53, 54, 55, 56, 57, 58, 59, 60, 61, 62, 63, 64, 65, 66, 67, 68, 69, 70, 71, 72, 73, 74, 75, 76, 77, 78, 79, 80, 81, 82, 83, 84, 85, 86, 87, 88, 89, 90, 91, 92, 93, 94, 95, 96, 97, 98, 99, 100, 101, 102, 103, 104, 105, 106, 107, 108, 109, 110, 111, 112, 113, 114, 115, 116, 117, 118, 119, 120, 121, 122, 123, 124, 125, 126, 10] : List Nat)) = (c ∈ allSigns) from rfl, g.1, tyD, fCount, show ¬ (1 : Int) < (s.count c : Nat) by omega, -List.mem_cons]
            show match b_is_tongue_1 ([some (.str s), some (.str [c])]) h' with
              | .nx e2 h2 => _
              | .ct e2 h2 => _
              | .bk e2 h2 => _
              | r => _
            rw [eb]
            refine ⟨rfl, ⟨_, rfl⟩, fun k hk => ?_⟩
            rw [List.take_add_one, hc] at hk
            rcases List.mem_append.mp hk with hk | hk
            · exact ok k hk
            · simp at hk
              subst hk
              exact g
          · have eb : b_is_tongue_1 ([some (.str s), some (.str [c])]) h' = .rt (.bl false) h' := by
              unfold b_is_tongue_1
              by_cases g1 : c ∈ allSigns
              · have g2 : (1 : Int) < (s.count c : Nat) := by
                  have : ¬ s.count c ≤ 1 := fun z => g ⟨g1, z⟩
                  omega
                simp [c_SIGNS, show (c ∈ ([32, 33, 34, 35, 36, 38, 39, 40, 41, 42, 43, 44, 45, 46, 47, 48, 49, 50, 51, 52, 53, 54, 55, 56, 57, 58, 59, 60, 61, 62, 63, 64, 65, 66, 67, 68, 69, 70, 71, 72, 73, 74, 75, 76, 77, 78, 79, 80, 81, 82, 83, 84, 85, 86, 87, 88, 89, 90, 91, 92, 93, 94, 95, 96, 97, 98, 99, 100, 101, 102, 103, 104, 105, 106, 107, 108, 109, 110, 111, 112, 113, 114, 115, 116, 117, 118, 119, 120, 121, 122, 123, 124, 125, 126, 10] : List Nat)) = (c ∈ allSigns) from rfl, g1, tyD, fCount, g2, -List.mem_cons]
              · simp [c_SIGNS, show (c ∈ ([32, 33, 34, 35, 36, 38, 39, 40, 41, 42, 43, 44, 45, 46, 47, 48, 49, 50, 51, 52, 53, 54, 55, 56, 57, 58, 59, 60, 61, 62, 63, 64, 65, 66, 67, 68, 69, 70, 71, 72, 73, 74, 75, 76, 77, 78, 79, 80, 81, 82, 83, 84, 85, 86, 87, 88, 89, 90, 91, 92, 93, 94, 95, 96, 97, 98, 99, 100, 101, 102, 103, 104, 105, 106, 107, 108, 109, 110, 111, 112, 113, 114, 115, 116, 117, 118, 119, 120, 121, 122, 123, 124, 125, 126, 10] : List Nat)) = (c ∈ allSigns) from rfl, g1, -List.mem_cons]
            show match b_is_tongue_1 ([some (.str s), some (.str [c])]) h' with
              | .nx e2 h2 => _
              | .ct e2 h2 => _
              | .bk e2 h2 => _
              | r => _
            rw [eb]
            exact no ⟨c, hm, g⟩ _ rfl
        · rintro env h' ⟨rfl, _, ok⟩
          refine yes (fun c hc => ok c ?_) env
          rw [show (sgD s).length = s.length by simp [sgD], List.take_length]
          exact hc
      have := loop (fun z => (z.then (msRet (mC (.bl true)))).fin = .ok (.bl (Tg s)) h) (fun ⟨c, hm, g⟩ h' e => by
        subst e
        have : Tg s = false := by
          unfold Tg
          rw [Bool.and_eq_false_iff]
          right
          rw [List.all_eq_false]
          exact ⟨c, hm, by simpa using g⟩
        rw [this]
        rfl) (fun g env => by
        have : Tg s = true := by
          unfold Tg
          simp [c1, c2]
          exact g
        rw [this]
        rfl)
      rw [← this]
      unfold m_is_tongue
      simp [b1, c_MOST_SIGNS, show (1 : Int) ≤ (s.length : Nat) by omega, show ((s.length : Nat) : Int) ≤ 6 by omega, show s.length ≤ 10000000 by omega, sgD, -ap_msRet, -List.mem_cons]
    · have : Tg s = false := by unfold Tg; simp [c2]
      rw [this]
      unfold m_is_tongue
      simp [b1, c_MOST_SIGNS, show (1 : Int) ≤ (s.length : Nat) by omega, show ¬ ((s.length : Nat) : Int) ≤ 6 by omega]
  · have : Tg s = false := by unfold Tg; simp [c1]
    rw [this]
    unfold m_is_tongue
    simp [b1, c_MOST_SIGNS, show ¬ (1 : Int) ≤ (s.length : Nat) by omega]
theorem is_tongue_no {x : D} {h : IH} (e : isT "str" h x = some false) : callC 1 m_is_tongue [x] h = .ok (.bl false) h := by
  refine callC_same rfl ?_
  unfold m_is_tongue
  simp [e]
/-- what is no tongue -/
def NoTg (h : IH) (x : D) : Prop := (∃ s, x = .str s ∧ s.length ≤ 1000 ∧ Tg s = false) ∨ isT "str" h x = some false
theorem is_tongue_bad {x : D} {h : IH} (e : NoTg h x) : callC 1 m_is_tongue [x] h = .ok (.bl false) h := by
  rcases e with ⟨s, rfl, l, e⟩ | e
  · rw [is_tongue_str l, e]
  · exact is_tongue_no e
theorem Tg_tab {s : List Nat} (e : 9 ∈ s) : Tg s = false := by
  unfold Tg
  rw [Bool.and_eq_false_iff]
  right
  rw [List.all_eq_false]
  exact ⟨9, e, by rw [show decide (9 ∈ allSigns) = false by decide]; simp⟩
theorem Tg_twice {s : List Nat} {c : Nat} (e : 2 ≤ s.count c) : Tg s = false := by
  unfold Tg
  rw [Bool.and_eq_false_iff]
  right
  rw [List.all_eq_false]
  refine ⟨c, List.count_pos_iff.mp (by omega), ?_⟩
  simp
  omega
theorem Tg_long {s : List Nat} (e : 6 < s.length) : Tg s = false := by
  unfold Tg
  simp
  omega
theorem Tg_of {s : List Nat} (l1 : 1 ≤ s.length) (l2 : s.length ≤ 6) (nd : s.Nodup) (sub : ∀ c ∈ s, c ∈ allSigns) : Tg s = true := by
  unfold Tg
  simp [l1, l2]
  exact fun c hc => ⟨sub c hc, List.nodup_iff_count.mp nd c⟩
end NR

set_option Elab.async false
set_option linter.all false
set_option maxRecDepth 100000
set_option maxHeartbeats 4000000
namespace NR
open PySem PySem.Spec PyProof.Rows L2
/-! ### forms -/
@[simp] theorem ix_t0 {a : D} {l : List D} {h : IH} : dIx (.tup (a :: l)) (.int 0) h = .ok a h := t0 h rfl
@[simp] theorem ix_t1 {a b : D} {l : List D} {h : IH} : dIx (.tup (a :: b :: l)) (.int 1) h = .ok b h := t1 h rfl
@[simp] theorem ix_t2 {a b c : D} {l : List D} {h : IH} : dIx (.tup (a :: b :: c :: l)) (.int 2) h = .ok c h := dIx_seq (xs := a :: b :: c :: l) rfl (by omega) rfl
@[simp] theorem ix_t3 {a b c d : D} {l : List D} {h : IH} : dIx (.tup (a :: b :: c :: d :: l)) (.int 3) h = .ok d h := t3 h rfl
theorem lMany4 : ([109, 97, 110, 121] : List Nat) = kMany := rfl
def FmIs (b : Bool) (x : D) : Prop := ∀ h : IH, callC 1 m_is_form [x] h = .ok (.bl b) h
abbrev NF (x : D) : Prop := FmIs false x
theorem nf_notup {x : D} (e : ∀ h, isT "tuple" h x = some false) : NF x := fun h => callC_same rfl (by
  unfold m_is_form
  rw [lTim, lOne, lRow, lEit, lMany4]
  simp [e])
theorem nf_few {l : List D} (n : l.length < 2) : NF (.tup l) := fun h => callC_same rfl (by
  unfold m_is_form
  rw [lTim, lOne, lRow, lEit, lMany4]
  have n' : (l.length : Int) < 2 := by omega
  simp [n, n'])
theorem nf_hd {a b : D} {l : List D} (e : ∀ h, isT "str" h a = some false) : NF (.tup (a :: b :: l)) := fun h => callC_same rfl (by
  unfold m_is_form
  rw [lTim, lOne, lRow, lEit, lMany4]
  have n' : ¬ (((l.length : Nat) : Int) + 1 + 1 < 2) := by omega
  simp [e, n'])
theorem nf_tim_len {b : D} {l : List D} (n : l.length ≠ 2) : NF (.tup (.str kTim :: b :: l)) := fun h => callC_same rfl (by
  unfold m_is_form
  rw [lTim, lOne, lRow, lEit, lMany4]
  have n' : ¬ (((l.length : Nat) : Int) + 1 + 1 < 2) := by omega
  have n2 : ¬ (((l.length : Nat) : Int) + 1 + 1 = 4) := by omega
  simp [n', n2])
theorem fm_tim {b p q : D} {r : Bool} (e : ∀ h, callC 2 m_are_times [p, q] h = .ok (.bl r) h) : FmIs r (.tup [.str kTim, b, p, q]) := fun h => callC_same rfl (by
  unfold m_is_form
  rw [lTim, lOne, lRow, lEit, lMany4]
  simp [e])
theorem nf_len {s : List Nat} {a b : D} {l : List D} (n : s ≠ kTim) : NF (.tup (.str s :: a :: b :: l)) := fun h => callC_same rfl (by
  unfold m_is_form
  rw [lTim, lOne, lRow, lEit, lMany4]
  have n' : ¬ (((l.length : Nat) : Int) + 1 + 1 + 1 < 2) := by omega
  have n2 : ¬ (((l.length : Nat) : Int) + 1 + 1 + 1 = 2) := by omega
  simp [n', n2, n])
theorem fm_one {y : D} {r : Bool} (e : ∀ h, callC 1 m_is_tongue [y] h = .ok (.bl r) h) : FmIs r (.tup [.str kOne, y]) := fun h => callC_same rfl (by
  unfold m_is_form
  rw [lTim, lOne, lRow, lEit, lMany4]
  simp [e])
theorem some_no {y : D} {a : Int} (e : ∀ h, isT "tuple" h y = some false) (h : IH) : callC 2 m_are_some [y, .int a] h = .ok (.bl false) h := callC_same rfl (by
  unfold m_are_some
  simp [e])
theorem some_tup {l : List D} {a : Int} (h : IH) : callC 2 m_are_some [.tup l, .int a] h = .ok (.bl (decide (a ≤ (l.length : Nat)) && decide (l.length ≤ 6))) h := callC_same rfl (by
  unfold m_are_some c_MOST_IN
  by_cases q : a ≤ (l.length : Nat)
  · by_cases q2 : l.length ≤ 6
    · have q3 : ((l.length : Nat) : Int) ≤ 6 := by omega
      simp [q, q2, q3]
    · have q3 : ¬ ((l.length : Nat) : Int) ≤ 6 := by omega
      simp [q, q2, q3]
  · simp [q])
theorem fm_row {y : D} {r : Bool} (e : ∀ h, callC 2 m_are_some [y, .int 0] h = .ok (.bl r) h) : FmIs r (.tup [.str kRow, y]) := fun h => callC_same rfl (by
  unfold m_is_form
  rw [lTim, lOne, lRow, lEit, lMany4]
  simp [e])
theorem fm_eit {y : D} {r : Bool} (e : ∀ h, callC 2 m_are_some [y, .int 1] h = .ok (.bl r) h) : FmIs r (.tup [.str kEit, y]) := fun h => callC_same rfl (by
  unfold m_is_form
  rw [lTim, lOne, lRow, lEit, lMany4]
  simp [e])
theorem fm_many {y : D} : FmIs true (.tup [.str kMany, y]) := fun h => callC_same rfl (by
  unfold m_is_form
  rw [lTim, lOne, lRow, lEit, lMany4]
  simp)
theorem nf_word {s : List Nat} {y : D} (n1 : s ≠ kTim) (n2 : s ≠ kOne) (n3 : s ≠ kRow) (n4 : s ≠ kEit) (n5 : s ≠ kMany) : NF (.tup [.str s, y]) := fun h => callC_same rfl (by
  unfold m_is_form
  rw [lTim, lOne, lRow, lEit, lMany4]
  simp [n1, n2, n3, n4, n5])
/-! numbers of times -/
theorem num_int {i : Int} (h : IH) : callC 1 m_is_number [.int i] h = .ok (.bl true) h := callC_same rfl (by
  unfold m_is_number
  simp)
theorem num_bl {b : Bool} (h : IH) : callC 1 m_is_number [.bl b] h = .ok (.bl false) h := callC_same rfl (by
  unfold m_is_number
  simp)
theorem num_no {x : D} (e : ∀ h, isT "int" h x = some false) (h : IH) : callC 1 m_is_number [x] h = .ok (.bl false) h := callC_same rfl (by
  unfold m_is_number
  simp [e])
theorem tim_no1 {x y : D} (e : ∀ h, callC 1 m_is_number [x] h = .ok (.bl false) h) (h : IH) : callC 2 m_are_times [x, y] h = .ok (.bl false) h := callC_same rfl (by
  unfold m_are_times
  simp [e])
theorem tim_no2 {i : Int} {y : D} (e : ∀ h, callC 1 m_is_number [y] h = .ok (.bl false) h) (h : IH) : callC 2 m_are_times [.int i, y] h = .ok (.bl false) h := callC_same rfl (by
  unfold m_are_times
  simp [num_int, e])
theorem tim_ints {i j : Int} (h : IH) : callC 2 m_are_times [.int i, .int j] h = .ok (.bl (decide (0 ≤ i) && (decide (i ≤ j) && decide (j ≤ 4)))) h := callC_same rfl (by
  unfold m_are_times c_MOST_TIMES
  by_cases q : 0 ≤ i
  · by_cases q2 : i ≤ j
    · by_cases q3 : j ≤ 4
      · simp [num_int, q, q2, q3]
      · simp [num_int, q, q2, q3]
    · simp [num_int, q, q2]
  · simp [num_int, q])
/-! what is straight within -/
theorem in_one {y : D} (h : IH) : callC 1 m_inner [.tup [.str kOne, y]] h = .ok (.tup []) h := callC_same rfl (by
  unfold m_inner
  rw [lOne, lRow, lEit]
  simp)
theorem in_row {l : List D} (h : IH) : callC 1 m_inner [.tup [.str kRow, .tup l]] h = .ok (.tup l) h := callC_same rfl (by
  unfold m_inner
  rw [lOne, lRow, lEit]
  simp [str_in])
theorem in_eit {l : List D} (h : IH) : callC 1 m_inner [.tup [.str kEit, .tup l]] h = .ok (.tup l) h := callC_same rfl (by
  unfold m_inner
  rw [lOne, lRow, lEit]
  simp [str_in])
theorem in_many {y : D} (h : IH) : callC 1 m_inner [.tup [.str kMany, y]] h = .ok (.tup [y]) h := callC_same rfl (by
  unfold m_inner
  rw [lOne, lRow, lEit]
  simp [str_in])
theorem in_tim {y a b : D} (h : IH) : callC 1 m_inner [.tup [.str kTim, y, a, b]] h = .ok (.tup [y]) h := callC_same rfl (by
  unfold m_inner
  rw [lOne, lRow, lEit]
  simp [str_in])
end NR

set_option Elab.async false
set_option linter.all false
set_option maxRecDepth 100000
set_option maxHeartbeats 4000000
namespace NR
open PySem PySem.Spec PyProof.Rows L2
/-! ### counted -/
/-- what counted tells of a thing, by the depth that is left -/
def Cn (x : D) (f : Nat → Nat) : Prop := ∀ (k n : Nat) (h : IH), k < n → callC 2 (m_counted n) [x, .int (k : Nat)] h = .ok (.int (f k : Nat)) h
abbrev Bad (x : D) : Prop := Cn x fun _ => 0
theorem cn_zero (x : D) (n : Nat) (h : IH) : callC 2 (m_counted (n + 1)) [x, .int ((0 : Nat) : Int)] h = .ok (.int ((0 : Nat) : Int)) h := callC_same rfl (by
  rw [m_counted_succ]
  unfold B_counted
  simp)
theorem bad_nf {x : D} (e : NF x) : Bad x := fun k n h l => by
  cases n with
  | zero => omega
  | succ n =>
    cases k with
    | zero => exact cn_zero x n h
    | succ k =>
      refine callC_same rfl ?_
      have e := e h
      rw [m_counted_succ]
      unfold B_counted
      have k0 : ¬ (((k : Nat) : Int) + 1 = 0) := by omega
      simp [e, k0]
def cnt : List Nat → Nat → Nat
  | [], a => a
  | b :: bs, a => if b = 0 then 0 else cnt bs (a + b)
theorem cnt_zero : ∀ {bs : List Nat} {a : Nat}, 0 ∈ bs → cnt bs a = 0
  | b :: bs, a, h => by
    unfold cnt
    by_cases q : b = 0
    · rw [if_pos q]
    · rw [if_neg q]
      rcases List.mem_cons.mp h with h | h
      · exact absurd h.symm q
      · exact cnt_zero h
theorem cnt_sum : ∀ {bs : List Nat} {a : Nat}, (∀ b ∈ bs, b ≠ 0) → cnt bs a = a + bs.sum
  | [], a, _ => by simp [cnt]
  | b :: bs, a, h => by
    unfold cnt
    rw [if_neg (h b List.mem_cons_self), cnt_sum fun x hx => h x (List.mem_cons_of_mem _ hx), List.sum_cons]
    omega
theorem cn_loop {n k : Nat} {h : IH} {x : D} (kn : k < n) (F : D → Nat → Nat) : ∀ (ys : List D) (a : Nat) (x3 x4 : Option D), (∀ y ∈ ys, Cn y (F y)) →
    ((forL (gSet 3) (b_counted_1 (m_counted n)) ys [some x, some (.int ((k + 1 : Nat) : Int)), some (.int (a : Nat)), x3, x4] h).then (msRet (mVar 2))).fin = .ok (.int (cnt (ys.map fun y => F y k) a : Nat)) h
  | [], a, x3, x4, _ => by
    rw [forL_nil, then_nx]
    rfl
  | y :: ys, a, x3, x4, hy => by
    have c := hy y List.mem_cons_self k n h kn
    have ih := cn_loop (h := h) (x := x) kn F ys (a + F y k) (some y) (some (.int (F y k : Nat))) fun z hz => hy z (List.mem_cons_of_mem _ hz)
    rw [forL_cons (e1 := [some x, some (.int ((k + 1 : Nat) : Int)), some (.int (a : Nat)), some y, x4]) rfl, List.map_cons]
    have km : (((k + 1 : Nat) : Int) - 1) = (k : Nat) := by omega
    unfold cnt
    generalize F y k = b at *
    by_cases q : b = 0
    · rw [if_pos q]
      subst q
      have e : b_counted_1 (m_counted n) [some x, some (.int ((k + 1 : Nat) : Int)), some (.int (a : Nat)), some y, x4] h = .rt (.int ((0 : Nat) : Int)) h := by
        unfold b_counted_1
        generalize ((k + 1 : Nat) : Int) = k1 at *
        simp [km, c]
      rw [e, on_rt, then_rt]
      rfl
    · rw [if_neg q]
      have q' : ¬ ((b : Nat) : Int) = 0 := by omega
      have e : b_counted_1 (m_counted n) [some x, some (.int ((k + 1 : Nat) : Int)), some (.int (a : Nat)), some y, x4] h = .nx [some x, some (.int ((k + 1 : Nat) : Int)), some (.int ((a + b : Nat) : Int)), some y, some (.int (b : Nat))] h := by
        unfold b_counted_1
        generalize ((k + 1 : Nat) : Int) = k1 at *
        have : ((a + b : Nat) : Int) = (a : Int) + (b : Int) := by omega
        rw [this]
        simp [km, c, q, q', fzR]
      rw [e, on_nx]
      exact ih
theorem cn_first {n k : Nat} {h : IH} {x : D} {y : D} {ys : List D} (kn : k < n) (b : Bad y) (a : Nat) (x3 x4 : Option D) :
    ((forL (gSet 3) (b_counted_1 (m_counted n)) (y :: ys) [some x, some (.int ((k + 1 : Nat) : Int)), some (.int (a : Nat)), x3, x4] h).then (msRet (mVar 2))).fin = .ok (.int ((0 : Nat) : Int)) h := by
  have c := b k n h kn
  rw [forL_cons (e1 := [some x, some (.int ((k + 1 : Nat) : Int)), some (.int (a : Nat)), some y, x4]) rfl]
  have km : (((k + 1 : Nat) : Int) - 1) = (k : Nat) := by omega
  have e : b_counted_1 (m_counted n) [some x, some (.int ((k + 1 : Nat) : Int)), some (.int (a : Nat)), some y, x4] h = .rt (.int ((0 : Nat) : Int)) h := by
    unfold b_counted_1
    generalize ((k + 1 : Nat) : Int) = k1 at *
    simp [km, c]
  rw [e, on_rt, then_rt]
  rfl
theorem cn_walk {x : D} {ys : List D} {g : Nat → Nat} (fm : FmIs true x) (inn : ∀ h, callC 1 m_inner [x] h = .ok (.tup ys) h) (lp : ∀ (n k : Nat) (h : IH), k < n → ((forL (gSet 3) (b_counted_1 (m_counted n)) ys [some x, some (.int ((k + 1 : Nat) : Int)), some (.int ((1 : Nat) : Int)), none, none] h).then (msRet (mVar 2))).fin = .ok (.int (g k : Nat)) h) :
    Cn x fun k => match k with | 0 => 0 | k + 1 => g k := fun k n h l => by
  cases n with
  | zero => omega
  | succ n =>
    cases k with
    | zero => exact cn_zero x n h
    | succ k =>
      refine callC_same rfl ?_
      have fm := fm h
      have inn := inn h
      have lp := lp n k h (by omega)
      rw [m_counted_succ]
      unfold B_counted
      rw [ap_fnM]
      simp only [List.map_cons, List.map_nil, List.length_cons, List.length_nil, List.cons_append, List.nil_append, Nat.reduceAdd, Nat.reduceSub, List.replicate]
      have k0 : ¬ (((k + 1 : Nat) : Int) = 0) := by omega
      refine stN (env2 := [some x, some (.int ((k + 1 : Nat) : Int)), none, none, none]) (h2 := h) (by
        generalize ((k + 1 : Nat) : Int) = k1 at *
        simp [fm, k0]) ?_
      refine stN (env2 := [some x, some (.int ((k + 1 : Nat) : Int)), some (.int ((1 : Nat) : Int)), none, none]) (h2 := h) (by simp) ?_
      rw [ap_msCons, for_st (ds := ys) (h2 := h) (by simp [inn])]
      exact lp
def cnF (F : D → Nat → Nat) (ys : List D) : Nat → Nat
  | 0 => 0
  | k + 1 => cnt (ys.map fun y => F y k) 1
theorem cn_form {x : D} {ys : List D} {F : D → Nat → Nat} (fm : FmIs true x) (inn : ∀ h, callC 1 m_inner [x] h = .ok (.tup ys) h) (hy : ∀ y ∈ ys, Cn y (F y)) : Cn x (cnF F ys) := by
  have := cn_walk (g := fun k => cnt (ys.map fun y => F y k) 1) fm inn fun n k h kn => cn_loop kn F ys 1 none none hy
  intro k n h l
  have := this k n h l
  cases k <;> exact this
theorem bad_first {x y : D} {ys : List D} (fm : FmIs true x) (inn : ∀ h, callC 1 m_inner [x] h = .ok (.tup (y :: ys)) h) (b : Bad y) : Bad x := by
  have := cn_walk (g := fun _ => 0) fm inn fun n k h kn => cn_first kn b 1 none none
  intro k n h l
  have := this k n h l
  cases k <;> exact this
theorem bad_mem {x y : D} {ys : List D} {F : D → Nat → Nat} (fm : FmIs true x) (inn : ∀ h, callC 1 m_inner [x] h = .ok (.tup ys) h) (hy : ∀ y ∈ ys, Cn y (F y)) (my : y ∈ ys) (b : Bad y) : Bad x := by
  classical
  have := cn_form (F := fun z => if z = y then fun _ => 0 else F z) fm inn fun z hz => by
    by_cases q : z = y
    · rw [if_pos q, q]
      exact b
    · rw [if_neg q]
      exact hy z hz
  intro k n h l
  have := this k n h l
  rw [this]
  cases k with
  | zero => rfl
  | succ k =>
    show R.ok (D.int ((cnt (ys.map fun z => (if z = y then fun _ => 0 else F z) k) 1 : Nat) : Int)) h = _
    rw [cnt_zero (List.mem_map.mpr ⟨y, my, by rw [if_pos rfl]⟩)]
theorem is_shape_call {x : D} {f : Nat → Nat} (c : Cn x f) (h : IH) : callC 1 m_is_shape [x] h = .ok (.bl (decide (1 ≤ f 5) && decide (f 5 ≤ 24))) h := by
  refine callC_same rfl ?_
  have c : callC 2 (m_counted 24) [x, .int 5] h = .ok (.int (f 5 : Nat)) h := c 5 24 h (by omega)
  unfold m_is_shape c_DEEPEST c_MOST_PARTS
  generalize f 5 = m at *
  by_cases q : 1 ≤ m
  · have q' : (1 : Int) ≤ (m : Nat) := by omega
    by_cases q2 : m ≤ 24
    · have q2' : (m : Int) ≤ 24 := by omega
      simp [c, q, q', q2, q2']
    · have q2' : ¬ (m : Int) ≤ 24 := by omega
      simp [c, q, q', q2, q2']
  · have q' : ¬ (1 : Int) ≤ (m : Nat) := by omega
    simp [c, q, q']
/-! shapes -/
theorem sum_parts {d : Nat} : ∀ {l : List D}, ((l.map (partsD d)).flatten).length = (l.map fun y => (partsD d y).length).sum
  | [] => rfl
  | y :: l => by
    rw [List.map_cons, List.flatten_cons, List.length_append, List.map_cons, List.sum_cons, sum_parts]
theorem parts_pos {d : Nat} {x : D} (s : IsSh d x) : (partsD d x).length ≠ 0 := by
  cases d with
  | zero => cases s
  | succ d => unfold partsD; simp
theorem parts_suc {d : Nat} {x : D} : (partsD (d + 1) x).length = 1 + ((innerD x).map fun y => (partsD d y).length).sum := by
  show (x :: ((innerD x).map (partsD d)).flatten).length = _
  rw [List.length_cons, sum_parts]
  omega
theorem skF {p : D → (Nat → Nat) → Prop} {l : List D} (h : ∀ y ∈ l, ∃ a, p y a) : ∃ f : D → Nat → Nat, ∀ y ∈ l, p y (f y) := by
  have : ∀ y, ∃ a, y ∈ l → p y a := fun y => by
    by_cases q : y ∈ l
    · obtain ⟨a, ha⟩ := h y q
      exact ⟨a, fun _ => ha⟩
    · exact ⟨fun _ => 0, fun h => absurd h q⟩
  obtain ⟨f, hf⟩ := Classical.skolem.mp this
  exact ⟨f, fun y hy => hf y hy⟩
/-- a form whose parts are shapes -/
theorem cn_parts {d : Nat} {x : D} {ys : List D} (fm : FmIs true x) (inn : ∀ h, callC 1 m_inner [x] h = .ok (.tup ys) h) (iy : innerD x = ys) (hs : ∀ y ∈ ys, IsSh d y) (hy : ∀ y ∈ ys, ∃ f, Cn y f ∧ ∀ k, d ≤ k → f k = (partsD d y).length) : ∃ f, Cn x f ∧ ∀ k, d + 1 ≤ k → f k = (partsD (d + 1) x).length := by
  obtain ⟨F, hF⟩ := skF hy
  refine ⟨_, cn_form fm inn fun y h => (hF y h).1, fun k hk => ?_⟩
  cases k with
  | zero => omega
  | succ k =>
    show cnt (ys.map fun y => F y k) 1 = _
    have e : (ys.map fun y => F y k) = ys.map fun y => (partsD d y).length := List.map_congr_left fun y h => (hF y h).2 k (by omega)
    rw [e, cnt_sum, parts_suc, iy]
    intro b hb
    obtain ⟨y, hy, rfl⟩ := List.mem_map.mp hb
    exact parts_pos (hs y hy)
theorem sg_form {t : List Nat} (sub : ∀ c ∈ t, c ∈ allSigns) {d : Nat} {x : D} (s : Sg t d x) : FmIs true x ∧ ∀ h, callC 1 m_inner [x] h = .ok (.tup (innerD x)) h := by
  refine ⟨?_, fun h => inner_call s.sh h⟩
  cases s with
  | one n1 n6 nd sb => exact fm_one fun h => by rw [is_tongue_str (by omega), Tg_of n1 n6 nd fun c hc => sub c (sb c hc)]
  | row n6 hh => exact fm_row fun h => by rw [some_tup]; simp [n6]
  | eit n6 n1 hh => exact fm_eit fun h => by rw [some_tup, decide_eq_true (by omega), decide_eq_true n6]; rfl
  | many hh => exact fm_many
  | times hh l0 lh h4 => exact fm_tim fun h => by rw [tim_ints, decide_eq_true l0, decide_eq_true lh, decide_eq_true h4]; rfl
theorem Sg.inn {t : List Nat} {d : Nat} {x : D} (s : Sg t (d + 1) x) : ∀ y ∈ innerD x, Sg t d y := by
  cases s with
  | one => rw [innerD_one]; simp
  | row _ h => rw [innerD_row]; exact h
  | eit _ _ h => rw [innerD_eit]; exact h
  | many h => rw [innerD_many]; simpa using h
  | times h => rw [innerD_times]; simpa using h
theorem sg_cn {t : List Nat} (sub : ∀ c ∈ t, c ∈ allSigns) : ∀ {d : Nat} {x : D}, Sg t d x → ∃ f, Cn x f ∧ ∀ k, d ≤ k → f k = (partsD d x).length
  | 0, _, s => by cases s
  | d + 1, x, s => by
    obtain ⟨h1, h2⟩ := sg_form sub s
    exact cn_parts h1 h2 rfl (fun y hy => (s.inn y hy).sh) fun y hy => sg_cn sub (s.inn y hy)
end NR

set_option Elab.async false
set_option linter.all false
set_option maxRecDepth 100000
set_option maxHeartbeats 1000000
namespace NR
open PySem PySem.Spec PyProof.Rows L2
/-! ### drawn books are books -/
theorem dIn_lett {c : Nat} (h : IH) : dIn true (.str [c]) c_LETTERS_books h = .ok (.bl (!decide (c ∈ lettersH))) h := dIn_sign
theorem is_name_loop {X : Option D} {h : IH} : ∀ (w : List Nat) (x : Option D), (∀ c ∈ w, c ∈ lettersH) → ∃ x', forL (gSet 1) b_is_name_books_1 (sgD w) [X, x] h = .nx [X, x'] h
  | [], x, _ => ⟨x, rfl⟩
  | c :: w, x, hw => by
    obtain ⟨x', e⟩ := is_name_loop (X := X) (h := h) w (some (.str [c])) fun d hd => hw d (List.mem_cons_of_mem _ hd)
    refine ⟨x', ?_⟩
    have di := dIn_lett (c := c) h
    rw [decide_eq_true (hw c List.mem_cons_self)] at di
    rw [show sgD (c :: w) = .str [c] :: sgD w from rfl, forL_cons (e1 := [X, some (.str [c])]) rfl]
    have e3 : b_is_name_books_1 [X, some (.str [c])] h = .nx [X, some (.str [c])] h := by
      unfold b_is_name_books_1
      generalize c_LETTERS_books = CL at *
      simp [di]
    rw [e3, on_nx]
    exact e
theorem is_name_call {n : List Nat} (hn : NmH n) (h : IH) : callC 1 m_is_name_books [.str n] h = .ok (.bl true) h := by
  obtain ⟨l1, l8, sub⟩ := hn
  obtain ⟨x', e⟩ := is_name_loop (h := h) (X := some (.str n)) n none sub
  refine callC_same rfl ?_
  have bl : bLen [.str n] h = .ok (.int (n.length : Nat)) h := bLen_str (by omega)
  have q1 : (1 : Int) ≤ (n.length : Nat) := by omega
  have q2 : ((n.length : Nat) : Int) ≤ 8 := by omega
  unfold m_is_name_books
  rw [ap_fnM]
  simp only [List.map_cons, List.map_nil, List.length_cons, List.length_nil, List.cons_append, List.nil_append, Nat.reduceAdd, Nat.reduceSub, List.replicate]
  refine stN (env2 := [some (.str n), none]) (h2 := h) (by clear e; simp [bl, c_MOST_LETTERS, q1, q2]) ?_
  refine stN (env2 := [some (.str n), x']) (h2 := h) ((for_st (ds := sgD n) (h2 := h) (iSeq_str rfl (by omega))).trans e) ?_
  simp
theorem is_of_call {t : List Nat} (tl : t.length ≤ 100) : ∀ (d n : Nat) {x : D}, Sg t d x → d ≤ n → ∀ h : IH, callC 2 (m_is_of n) [x, .str t] h = .ok (.bl true) h
  | 0, _, _, s, _, _ => by cases s
  | d + 1, 0, _, _, l, _ => by omega
  | d + 1, n + 1, x, s, l, h => by
    refine callC_same rfl ?_
    show B_is_of (m_is_of n) _ h = _
    have si := str_in h
    have fz0 : fzD h h [] = .ok (.fl []) h := fzD_same rfl
    have e0 : dEq false (.fl []) (.fl []) h = .ok (.bl true) h := dEq_self (by rw [show (50 : Nat) = 49 + 1 from rfl, pl_fl]; rfl)
    have parts : ∀ (k : List Nat) (l : List D), l.length ≤ 6 → (∀ y ∈ l, Sg t d y) → mFz (mLc (iSeq (mOp dIx (mVar 0) (mC (.int 1)))) (gSet 3) (t_is_of_3 (m_is_of n)) (e_is_of_4 (m_is_of n)) [3]) [some (.tup [.str k, .tup l]), some (.str t), none, none] h = .ok (.fl []) h := fun k l ll hy => by
      have i1 := t1 h (l := [.str k, .tup l]) rfl
      have := lcF_filter (it := iSeq (mOp dIx (mVar 0) (mC (.int 1)))) (ws := [3]) (gg := gSet 3) (t := t_is_of_3 (m_is_of n)) (m := e_is_of_4 (m_is_of n)) (ds := l) (h := h) (env := [some (.tup [.str k, .tup l]), some (.str t), none, none]) id (fun _ => false) (by simp [i1]) (by omega) (fun d _ q => by cases q) (fun y hm => by
        refine ⟨[some (.tup [.str k, .tup l]), some (.str t), none, some y], rfl, fun v => ?_, fun v q => by cases q⟩
        have ih := is_of_call tl d n (hy y hm) (by omega) (h ++ [v])
        unfold t_is_of_3
        generalize h ++ [v] = H1 at *
        simp [ih])
      rw [this]
      simp
    cases s with
    | one n1 n6 nd sub =>
      rename_i s
      have i0 := t0 h (l := [.str kOne, .str s]) rfl
      have i1 := t1 h (l := [.str kOne, .str s]) rfl
      have comp := lcF_filter (it := iSeq (mOp dIx (mVar 0) (mC (.int 1)))) (ws := [2]) (gg := gSet 2) (t := t_is_of_1 (m_is_of n)) (m := e_is_of_2 (m_is_of n)) (ds := sgD s) (h := h) (env := [some (.tup [.str kOne, .str s]), some (.str t), none, none]) id (fun _ => false) (iSeq_str (by simp [i1]) (by omega)) (by unfold sgD; rw [List.length_map]; omega) (fun d _ q => by cases q) (fun y hm => by
        obtain ⟨c, hc, rfl⟩ := List.mem_map.mp hm
        refine ⟨[some (.tup [.str kOne, .str s]), some (.str t), some (.str [c]), none], rfl, fun v => ?_, fun v q => by cases q⟩
        have hc := sub c hc
        unfold t_is_of_1
        generalize h ++ [v] = H1 at *
        simp [hc])
      have comp : mFz (mLc (iSeq (mOp dIx (mVar 0) (mC (.int 1)))) (gSet 2) (t_is_of_1 (m_is_of n)) (e_is_of_2 (m_is_of n)) [2]) [some (.tup [.str kOne, .str s]), some (.str t), none, none] h = .ok (.fl []) h := by
        rw [comp]
        simp
      unfold B_is_of
      rw [lOne, ap_fnM]
      simp only [List.map_cons, List.map_nil, List.length_cons, List.length_nil, List.cons_append, List.nil_append, Nat.reduceAdd, Nat.reduceSub, List.replicate]
      refine stR ?_
      generalize mFz (mLc (iSeq (mOp dIx (mVar 0) (mC (.int 1)))) (gSet 2) (t_is_of_1 (m_is_of n)) (e_is_of_2 (m_is_of n)) [2]) = CC at *
      simp [i0, comp, newL_bind, fz_newL, fz0, e0]
    | row n6 hh =>
      rename_i l
      have i0 := t0 h (l := [.str kRow, .tup l]) rfl
      have comp := parts kRow l n6 hh
      unfold B_is_of
      rw [lOne, lRow, lEit, ap_fnM]
      simp only [List.map_cons, List.map_nil, List.length_cons, List.length_nil, List.cons_append, List.nil_append, Nat.reduceAdd, Nat.reduceSub, List.replicate]
      refine stN (env2 := [some (.tup [.str kRow, .tup l]), some (.str t), none, none]) (h2 := h) (by clear comp; simp [i0]) ?_
      refine stR ?_
      generalize mFz (mLc (iSeq (mOp dIx (mVar 0) (mC (.int 1)))) (gSet 3) (t_is_of_3 (m_is_of n)) (e_is_of_4 (m_is_of n)) [3]) = CC at *
      simp [i0, si, comp, newL_bind, fz_newL, fz0, e0]
    | eit n6 n1 hh =>
      rename_i l
      have i0 := t0 h (l := [.str kEit, .tup l]) rfl
      have comp := parts kEit l n6 hh
      unfold B_is_of
      rw [lOne, lRow, lEit, ap_fnM]
      simp only [List.map_cons, List.map_nil, List.length_cons, List.length_nil, List.cons_append, List.nil_append, Nat.reduceAdd, Nat.reduceSub, List.replicate]
      refine stN (env2 := [some (.tup [.str kEit, .tup l]), some (.str t), none, none]) (h2 := h) (by clear comp; simp [i0]) ?_
      refine stR ?_
      generalize mFz (mLc (iSeq (mOp dIx (mVar 0) (mC (.int 1)))) (gSet 3) (t_is_of_3 (m_is_of n)) (e_is_of_4 (m_is_of n)) [3]) = CC at *
      simp [i0, si, comp, newL_bind, fz_newL, fz0, e0]
    | many hh =>
      rename_i y
      have i0 := t0 h (l := [.str kMany, y]) rfl
      have i1 := t1 h (l := [.str kMany, y]) rfl
      have ih := is_of_call tl d n hh (by omega) h
      unfold B_is_of
      rw [lOne, lRow, lEit]
      simp [i0, i1, si, ih]
    | times hh l0 lh h4 =>
      rename_i y lo hi
      have i0 := t0 h (l := [.str kTim, y, .int lo, .int hi]) rfl
      have i1 := t1 h (l := [.str kTim, y, .int lo, .int hi]) rfl
      have ih := is_of_call tl d n hh (by omega) h
      unfold B_is_of
      rw [lOne, lRow, lEit]
      simp [i0, i1, si, ih]
theorem is_rule_call {t : List Nat} (tg : Tgn t) {r : D} (hr : RuleOk t r) (hn : NmH (nmD r)) (h : IH) : callC 2 m_is_rule [r, .str t] h = .ok (.bl true) h := by
  obtain ⟨nm, x, e, rfl, e5, sg, pl⟩ := hr
  have l2 := tg.l2
  have hn : NmH nm := hn
  refine callC_same rfl ?_
  obtain ⟨f, cn, hf⟩ := sg_cn tg.sub sg
  have isc := is_shape_call cn h
  have pp := parts_pos sg.sh
  rw [hf 5 e5, decide_eq_true (show 1 ≤ (partsD e x).length by omega), decide_eq_true pl] at isc
  have isc : callC 1 m_is_shape [x] h = .ok (.bl true) h := isc
  have inm := is_name_call hn h
  have iso := is_of_call (t := t) (by omega) e 24 sg (by omega) h
  have i0 := t0 h (l := [.str nm, x]) rfl
  have i1 := t1 h (l := [.str nm, x]) rfl
  unfold m_is_rule
  simp [i0, i1, inm, isc, iso]
theorem is_book_loop {t : List Nat} (tg : Tgn t) {X0 X1 : Option D} (x0 : X0 = some X) (hx : ∀ h, dIx X (.int 0) h = .ok (.str t) h) {h : IH} : ∀ (rs ps : List D) (x3 : Option D), (∀ r ∈ ps ++ rs, RuleOk t r) → (∀ n ∈ (ps ++ rs).map nmD, NmH n) → ((ps ++ rs).map nmD).Nodup → ps.length + rs.length ≤ 100 →
    ∃ y3, forL (gSet 3) b_is_book_1 rs [X0, X1, some (.ref h.length), x3] (h ++ [.lst ((ps.map nmD).map D.str)]) = .nx [X0, X1, some (.ref h.length), y3] (h ++ [.lst (((ps ++ rs).map nmD).map D.str)])
  | [], ps, x3, _, _, _, _ => ⟨x3, by rw [List.append_nil]; rfl⟩
  | r :: rs, ps, x3, hr, hn, nd, pl => by
    rw [List.length_cons] at pl
    have r1 := hr r (by simp)
    have n1 := hn (nmD r) (List.mem_map_of_mem (by simp))
    have rc := is_rule_call tg r1 n1 (h ++ [.lst ((ps.map nmD).map D.str)])
    have fresh : nmD r ∉ ps.map nmD := by
      rw [List.map_append, List.map_cons, List.nodup_append] at nd
      intro hm
      exact nd.2.2 _ hm _ List.mem_cons_self rfl
    obtain ⟨y3, lp⟩ := is_book_loop tg x0 hx (X1 := X1) (h := h) rs (ps ++ [r]) (some r) (by simpa using hr) (by simpa using hn) (by simpa using nd) (by rw [List.length_append, List.length_singleton]; omega)
    refine ⟨y3, ?_⟩
    have ea : ps ++ [r] ++ rs = ps ++ r :: rs := by simp
    rw [ea] at lp
    rw [forL_cons (e1 := [X0, X1, some (.ref h.length), some r]) rfl]
    have c0 : (h ++ [Cell.lst ((ps.map nmD).map D.str)])[h.length]? = some (.lst ((ps.map nmD).map D.str)) := get_last
    have i0 : ∀ H : IH, dIx r (.int 0) H = .ok (.str (nmD r)) H := fun H => by
      obtain ⟨nm, x, e, rfl, _⟩ := r1
      exact t0 H (l := [.str nm, x]) rfl
    have di : dIn false (.str (nmD r)) (.ref h.length) (h ++ [.lst ((ps.map nmD).map D.str)]) = .ok (.bl false) (h ++ [.lst ((ps.map nmD).map D.str)]) := by
      rw [dIn_pl (ys := (ps.map nmD).map D.str) (by
        unfold seqOf
        dsimp only
        rw [c0]) rfl (fun d hd => by obtain ⟨w, _, rfl⟩ := List.mem_map.mp hd; rfl)]
      have : ¬ ((D.str (nmD r)).nm ∈ ((ps.map nmD).map D.str).map D.nm) := by
        intro hm
        obtain ⟨z, hz, e⟩ := List.mem_map.mp hm
        obtain ⟨w, hw, rfl⟩ := List.mem_map.mp hz
        have e : (D.str w).nm = (D.str (nmD r)).nm := e
        have : w = nmD r := by simpa using e
        exact fresh (this ▸ hw)
      simp only [Bool.false_eq_true, if_false]
      rw [decide_eq_decide.mpr (iff_false_intro this)]
      rfl
    have ty := tyD_ref c0
    have ap := append_at (y := .str (nmD r)) c0 (by rw [List.length_map, List.length_map]; omega)
    rw [set_last, show (ps.map nmD).map D.str ++ [D.str (nmD r)] = ((ps ++ [r]).map nmD).map D.str by simp] at ap
    have e3 : b_is_book_1 [X0, X1, some (.ref h.length), some r] (h ++ [.lst ((ps.map nmD).map D.str)]) = .nx [X0, X1, some (.ref h.length), some r] (h ++ [.lst (((ps ++ [r]).map nmD).map D.str)]) := by
      subst x0
      unfold b_is_book_1
      have hx' := hx (h ++ [.lst ((ps.map nmD).map D.str)])
      have i0' := i0 (h ++ [.lst ((ps.map nmD).map D.str)])
      clear lp c0 i0 hx
      generalize h ++ [Cell.lst (((ps ++ [r]).map nmD).map D.str)] = G1 at *
      generalize h ++ [Cell.lst ((ps.map nmD).map D.str)] = G0 at *
      generalize h.length = N at *
      simp [hx', i0', rc, di, ty, ap]
    rw [e3, on_nx]
    exact lp
theorem is_tongue_call {t : List Nat} (tg : Tgn t) (h : IH) : callC 1 m_is_tongue [.str t] h = .ok (.bl true) h := by
  have l2 := tg.l2
  rw [is_tongue_str (by omega), Tg_of tg.l1 tg.l2 tg.nd tg.sub]
theorem is_book_call {t : List Nat} (tg : Tgn t) {rs : List D} (hr : RulesH t rs) (l6 : rs.length ≤ 6) (h : IH) : callC 1 m_is_book [.tup [.str t, .tup rs]] h = .ok (.bl true) h := by
  have i0 := fun h => t0 h (l := [.str t, .tup rs]) rfl
  have i1 := fun h => t1 h (l := [.str t, .tup rs]) rfl
  obtain ⟨y3, lp⟩ := is_book_loop tg (X0 := some (.tup [.str t, .tup rs])) rfl i0 (X1 := some (.tup rs)) (h := h) rs [] none hr.ok hr.nm hr.nd (by simp; omega)
  refine callC_pure (g := [.lst ((rs.map nmD).map D.str)]) rfl ?_ rfl
  have tc := is_tongue_call tg h
  have i0' := i0 h
  have i1' := i1 h
  have bl : bLen [.tup [.str t, .tup rs]] h = .ok (.int 2) h := rfl
  have bl2 : bLen [.tup rs] h = .ok (.int (rs.length : Nat)) h := bLen_tup
  have q : ¬ (6 : Int) < (rs.length : Nat) := by omega
  unfold m_is_book
  rw [ap_fnM]
  simp only [List.map_cons, List.map_nil, List.length_cons, List.length_nil, List.cons_append, List.nil_append, Nat.reduceAdd, Nat.reduceSub, List.replicate]
  simp only [List.nil_append, List.map_nil] at lp
  refine stN (env2 := [some (.tup [.str t, .tup rs]), none, none, none]) (h2 := h) (by clear lp; simp [bl, i0', tc]) ?_
  refine stN (env2 := [some (.tup [.str t, .tup rs]), some (.tup rs), none, none]) (h2 := h) (by clear lp; simp [i1']) ?_
  refine stN (env2 := [some (.tup [.str t, .tup rs]), some (.tup rs), none, none]) (h2 := h) (by clear lp; simp [bl2, c_MOST_RULES, q]) ?_
  refine stN (env2 := [some (.tup [.str t, .tup rs]), some (.tup rs), some (.ref h.length), none]) (h2 := h ++ [.lst []]) (by clear lp; simp [newL]) ?_
  refine stN (env2 := [some (.tup [.str t, .tup rs]), some (.tup rs), some (.ref h.length), y3]) (h2 := h ++ [.lst ((rs.map nmD).map D.str)]) ((for_st (ds := rs) (h2 := h ++ [.lst []]) (by clear lp; simp)).trans lp) ?_
  simp
theorem looked_book_call {t : List Nat} (tg : Tgn t) {rs : List D} (hr : RulesH t rs) (l6 : rs.length ≤ 6) (w10 : (rs.map wtD).sum ≤ 10) (h : IH) : callC 1 m_looked_book [.tup [.str t, .tup rs]] h = .ok (.tup [.str t, .tup rs]) h := by
  have ib := is_book_call tg hr l6 h
  have i1 := t1 h (l := [.str t, .tup rs]) rfl
  have comp := lcF_map (h := h) (env := [some (.tup [.str t, .tup rs]), none, none]) (it := iSeq (mOp dIx (mVar 0) (mC (.int 1)))) (ws := [1, 2]) (gg := gSets [1, 2]) (m := e_looked_book_1) (ds := rs) (fun r => .int (wtD r)) (by simp [i1]) (by omega) (fun y _ => rfl) (fun r hm => by
    obtain ⟨nm, x, e, rfl, e5, sg, pl⟩ := hr.ok r hm
    refine ⟨[some (.tup [.str t, .tup rs]), some (.str nm), some x], rfl, fun v => ?_⟩
    have wc := weight_call e 24 x sg.sh (by omega) (h ++ [v])
    rw [show wtD (.tup [.str nm, x]) = weightD e x from wt5 sg e5]
    unfold e_looked_book_1
    simp [wc])
  have e2 : rs.map (fun y => D.int (wtD y)) = (rs.map wtD).map D.int := by
    rw [List.map_map]
    rfl
  rw [e2] at comp
  refine callC_same rfl ?_
  have q : ¬ (10 : Int) < (rs.map wtD).sum := by omega
  unfold m_looked_book
  rw [ap_fnM]
  simp only [List.map_cons, List.map_nil, List.length_cons, List.length_nil, List.cons_append, List.nil_append, Nat.reduceAdd, Nat.reduceSub, List.replicate]
  generalize mFz (mLc (iSeq (mOp dIx (mVar 0) (mC (.int 1)))) (gSets [1, 2]) mYes e_looked_book_1 [1, 2]) = CC at *
  refine stN (env2 := [some (.tup [.str t, .tup rs]), none, none]) (h2 := h) (by clear comp; simp [ib]) ?_
  generalize rs.map wtD = WW at *
  refine stN (env2 := [some (.tup [.str t, .tup rs]), none, none]) (h2 := h) (by simp [comp, c_MOST_WEIGHT, q]) ?_
  simp
end NR

set_option Elab.async false
set_option linter.all false
set_option maxRecDepth 100000
set_option maxHeartbeats 4000000
namespace NR
open PySem PySem.Spec PyProof.Rows L2
/-! ### what is written -/
def qs1 (c : Nat) : List Nat := if c = 10 then [92, 110] else if c = 62 ∨ c = 92 then [92, c] else [c]
def qt (s : List Nat) : List Nat := (s.map qs1).flatten
def qq (s : List Nat) : List Nat := 60 :: (qt s ++ [62])
def dg (i : Int) : List Nat := [48 + i.toNat]
def wrS (f : D → List Nat) : D → List Nat
  | .tup (.str k :: a :: r) => if k = kOne then (match a with | .str s => qq s | _ => [])
    else if k = kRow then (match a with | .tup l => 40 :: (joinN [32] (l.map f) ++ [41]) | _ => [])
    else if k = kEit then (match a with | .tup l => 123 :: (joinN [32] (l.map f) ++ [125]) | _ => [])
    else if k = kMany then 42 :: f a
    else (match r with | [.int lo, .int hi] => dg lo ++ 45 :: (dg hi ++ 58 :: f a) | _ => [])
  | _ => []
def wrD : Nat → D → List Nat
  | 0 => fun _ => []
  | d + 1 => wrS (wrD d)
section
variable {d : Nat}
theorem wr_one {s : List Nat} : wrD (d + 1) (.tup [.str kOne, .str s]) = qq s := by
  show wrS (wrD d) _ = _
  unfold wrS
  dsimp only
  rw [if_pos rfl]
theorem wr_row {l : List D} : wrD (d + 1) (.tup [.str kRow, .tup l]) = 40 :: (joinN [32] (l.map (wrD d)) ++ [41]) := by
  show wrS (wrD d) _ = _
  unfold wrS
  dsimp only
  rw [if_neg (by decide), if_pos rfl]
theorem wr_eit {l : List D} : wrD (d + 1) (.tup [.str kEit, .tup l]) = 123 :: (joinN [32] (l.map (wrD d)) ++ [125]) := by
  show wrS (wrD d) _ = _
  unfold wrS
  dsimp only
  rw [if_neg (by decide), if_neg (by decide), if_pos rfl]
theorem wr_many {p : D} : wrD (d + 1) (.tup [.str kMany, p]) = 42 :: wrD d p := by
  show wrS (wrD d) _ = _
  unfold wrS
  dsimp only
  rw [if_neg (by decide), if_neg (by decide), if_neg (by decide), if_pos rfl]
theorem wr_tim {p : D} {lo hi : Int} : wrD (d + 1) (.tup [.str kTim, p, .int lo, .int hi]) = dg lo ++ 45 :: (dg hi ++ 58 :: wrD d p) := by
  show wrS (wrD d) _ = _
  unfold wrS
  dsimp only
  rw [if_neg (by decide), if_neg (by decide), if_neg (by decide), if_neg (by decide)]
end
theorem qs1_len (c : Nat) : (qs1 c).length ≤ 2 := by
  unfold qs1
  split
  · simp
  · split <;> simp
theorem qt_len : ∀ s : List Nat, (qt s).length ≤ 2 * s.length
  | [] => by simp [qt]
  | c :: s => by
    have := qt_len s
    have h1 := qs1_len c
    unfold qt at *
    rw [List.map_cons, List.flatten_cons, List.length_append, List.length_cons]
    omega
theorem joinN_len (a : List Nat) : ∀ ys : List (List Nat), (joinN a ys).length ≤ (ys.map List.length).sum + ys.length * a.length
  | [] => by simp [joinN]
  | [y] => by simp [joinN]
  | y :: x :: ys => by
    have := joinN_len a (x :: ys)
    show (y ++ a ++ joinN a (x :: ys)).length ≤ _
    rw [List.length_append, List.length_append]
    simp only [List.map_cons, List.sum_cons, List.length_cons, Nat.add_mul, Nat.one_mul] at *
    omega
/-- no longer than the parts let it be -/
theorem wr_len {t : List Nat} : ∀ {d : Nat} {x : D}, Sg t d x → (wrD d x).length + 1 ≤ 20 * (partsD d x).length := by
  intro d x h
  have lst : ∀ (d : Nat) (l : List D), (∀ y ∈ l, (wrD d y).length + 1 ≤ 20 * (partsD d y).length) → ((l.map (wrD d)).map List.length).sum + (l.map (wrD d)).length * 1 ≤ 20 * ((l.map (partsD d)).flatten).length := by
    intro d l
    induction l with
    | nil => intro _; simp
    | cons y l ih =>
      intro hy
      have h1 := hy y List.mem_cons_self
      have h2 := ih fun z hz => hy z (List.mem_cons_of_mem _ hz)
      simp only [List.map_cons, List.sum_cons, List.length_cons, List.flatten_cons, List.length_append, List.length_map] at *
      omega
  induction h with
  | @one d s n1 n6 nd sub =>
    rw [wr_one, parts_one]
    have := qt_len s
    unfold qq
    rw [List.length_cons, List.length_append, List.length_singleton]
    simp
    omega
  | @row d l n _ ih =>
    have h1 := lst d l ih
    have h2 := joinN_len [32] (l.map (wrD d))
    rw [List.length_singleton] at h2
    have pd : partsD (d + 1) (.tup [.str kRow, .tup l]) = .tup [.str kRow, .tup l] :: (l.map (partsD d)).flatten := by
      show _ :: ((innerD _).map (partsD d)).flatten = _
      rw [innerD_row]
    rw [wr_row, pd, List.length_cons, List.length_append, List.length_singleton, List.length_cons]
    omega
  | @eit d l n _ _ ih =>
    have h1 := lst d l ih
    have h2 := joinN_len [32] (l.map (wrD d))
    rw [List.length_singleton] at h2
    have pd : partsD (d + 1) (.tup [.str kEit, .tup l]) = .tup [.str kEit, .tup l] :: (l.map (partsD d)).flatten := by
      show _ :: ((innerD _).map (partsD d)).flatten = _
      rw [innerD_eit]
    rw [wr_eit, pd, List.length_cons, List.length_append, List.length_singleton, List.length_cons]
    omega
  | @many d p _ ih =>
    have pd : partsD (d + 1) (.tup [.str kMany, p]) = .tup [.str kMany, p] :: partsD d p := by
      show _ :: ((innerD _).map (partsD d)).flatten = _
      rw [innerD_many]
      simp
    rw [wr_many, pd, List.length_cons, List.length_cons]
    omega
  | @times d p lo hi _ _ _ _ ih =>
    have pd : partsD (d + 1) (.tup [.str kTim, p, .int lo, .int hi]) = .tup [.str kTim, p, .int lo, .int hi] :: partsD d p := by
      show _ :: ((innerD _).map (partsD d)).flatten = _
      rw [innerD_times]
      simp
    rw [wr_tim, pd, List.length_cons]
    unfold dg
    simp only [List.length_append, List.length_cons, List.length_nil]
    omega
theorem join_all {a : List Nat} {ys : List (List Nat)} {h : IH} (l : (ys.map List.length).sum + ys.length * a.length ≤ 10000000) : fJoin (.str a) [.fl (ys.map D.str)] h = .ok (.str (joinN a ys)) h := by
  unfold fJoin
  dsimp only
  rw [seqOf_fl]
  show (match allM D.str? (ys.map D.str) with | some ys => _ | none => _) = _
  rw [allM_mkStrs]
  dsimp only
  rw [if_pos l]
/-! ### a quote -/
theorem quote_loop {h : IH} {s0 : Option D} : ∀ (l acc : List Nat) (x : Option D), acc.length + 2 * l.length ≤ 100000 →
    ∃ y, forL (gSet 2) b__law_quote_1 (l.map fun c => D.str [c]) [s0, some (.str acc), x] h = .nx [s0, some (.str (acc ++ qt l)), y] h
  | [], acc, x, _ => ⟨x, by simp [qt, forL]⟩
  | c :: l, acc, x, hl => by
    rw [List.length_cons] at hl
    have ad : ∀ (a b : List Nat) (h : IH), a.length + b.length ≤ 200000 → dAdd (.str a) (.str b) h = .ok (.str (a ++ b)) h := fun a b h q => dAdd_str (by omega)
    have e : b__law_quote_1 [s0, some (.str acc), some (.str [c])] h = .nx [s0, some (.str (acc ++ qs1 c)), some (.str [c])] h := by
      unfold b__law_quote_1 qs1
      by_cases q : c = 10
      · rw [if_pos q]
        have a1 := ad acc [92, 110] h (by simp; omega)
        simp [q, a1]
      · rw [if_neg q]
        by_cases q2 : c = 62 ∨ c = 92
        · rw [if_pos q2]
          have a1 := ad acc [92] h (by simp; omega)
          have a2 := ad (acc ++ [92]) [c] h (by simp; omega)
          have : acc ++ [92] ++ [c] = acc ++ [92, c] := by simp
          rw [this] at a2
          generalize acc ++ [92] = A at *
          generalize acc ++ [92, c] = A2 at *
          rcases q2 with rfl | rfl
          · simp [a1, a2]
          · simp [a1, a2]
        · rw [if_neg q2]
          have a1 := ad acc [c] h (by simp; omega)
          have q3 : ¬ c = 62 := fun z => q2 (.inl z)
          have q4 : ¬ c = 92 := fun z => q2 (.inr z)
          simp [q, q3, q4, a1]
    have ql := qs1_len c
    obtain ⟨y, ih⟩ := quote_loop (h := h) (s0 := s0) l (acc ++ qs1 c) (some (.str [c])) (by rw [List.length_append]; omega)
    refine ⟨y, ?_⟩
    rw [List.map_cons, forL_cons (e1 := [s0, some (.str acc), some (.str [c])]) rfl, e, on_nx, ih, List.append_assoc]
    rfl
theorem law_quote_call {s : List Nat} (sl : s.length ≤ 1000) (h : IH) : callC 1 m__law_quote [.str s] h = .ok (.str (qq s)) h := by
  obtain ⟨y, lp⟩ := quote_loop (h := h) (s0 := some (.str s)) s [] none (by simp; omega)
  rw [List.nil_append] at lp
  have ql := qt_len s
  refine callC_same rfl ?_
  have a1 : ∀ h : IH, dAdd (.str [60]) (.str (qt s)) h = .ok (.str (60 :: qt s)) h := fun h => dAdd_str (by simp; omega)
  have a2 : ∀ h : IH, dAdd (.str (60 :: qt s)) (.str [62]) h = .ok (.str (qq s)) h := fun h => dAdd_str (by simp; omega)
  generalize qq s = W at *
  generalize qt s = w at *
  unfold m__law_quote
  rw [ap_fnM]
  simp only [List.map_cons, List.map_nil, List.length_cons, List.length_nil, List.cons_append, List.nil_append, Nat.reduceAdd, Nat.reduceSub, List.replicate]
  refine stN (env2 := [some (.str s), some (.str []), none]) (h2 := h) (by simp) ?_
  refine stN (env2 := [some (.str s), some (.str w), y]) (h2 := h) ?_ (by simp [a1, a2])
  exact (for_st (iSeq_str (by simp) (by omega))).trans lp
theorem two_signs : D.tup [.str [92], .str [62]] = .tup (([[92], [62]] : List (List Nat)).map D.str) := rfl
theorem sign_written_call (c : Nat) (h : IH) : callC 1 m_sign_written [.str [c]] h = .ok (.str (qs1 c)) h := callC_same rfl (by
  have ad : dAdd (.str [92]) (.str [c]) h = .ok (.str [92, c]) h := dAdd_str (by simp)
  unfold m_sign_written qs1
  by_cases q : c = 10
  · simp [q]
  · by_cases q2 : c = 62 ∨ c = 92
    · rw [if_neg q, if_pos q2]
      have q3 : c = 92 ∨ c = 62 := q2.symm
      simp [q, two_signs, dIn_strs, q3, ad, -List.map_cons, -List.map_nil]
    · rw [if_neg q, if_neg q2]
      have q3 : ¬ (c = 92 ∨ c = 62) := fun z => q2 z.symm
      simp [q, two_signs, dIn_strs, q3, -List.map_cons, -List.map_nil])
theorem quoted_call {s : List Nat} (sl : s.length ≤ 1000) (h : IH) : callC 1 m_quoted [.str s] h = .ok (.str (qq s)) h := by
  refine callC_same rfl ?_
  have ql := qt_len s
  have comp : mFz (mLc (iSeq (mVar 0)) (gSet 1) mYes e_quoted_1 [1]) [some (.str s), none] h = .ok (.fl ((s.map qs1).map D.str)) h := by
    have := lcF_map (env := [some (.str s), none]) (h := h) (it := iSeq (mVar 0)) (gg := gSet 1) (m := e_quoted_1) (ws := [1]) (ds := s.map fun c => D.str [c]) (fun d => match d with | .str [c] => .str (qs1 c) | _ => .non) (iSeq_str (by simp) (by omega)) (by rw [List.length_map]; omega) (fun d hd => by
      obtain ⟨c, _, rfl⟩ := List.mem_map.mp hd
      rfl) (fun d hd => by
      obtain ⟨c, _, rfl⟩ := List.mem_map.mp hd
      refine ⟨_, rfl, fun y => ?_⟩
      have := sign_written_call c (h ++ [y])
      unfold e_quoted_1
      simp [wipeE, this])
    rw [this, List.map_map, List.map_map]
    rfl
  have jl : ((s.map qs1).map List.length).sum + (s.map qs1).length * ([] : List Nat).length ≤ 10000000 := by
    have : ((s.map qs1).map List.length).sum = (qt s).length := by unfold qt; rw [List.length_flatten]
    rw [this, List.length_nil]
    omega
  have jn := join_all (h := h) jl
  rw [joinN_nil] at jn
  have jn : fJoin (.str []) [.fl ((s.map qs1).map D.str)] h = .ok (.str (qt s)) h := jn
  have a1 : ∀ h : IH, dAdd (.str [60]) (.str (qt s)) h = .ok (.str (60 :: qt s)) h := fun h => dAdd_str (by simp; omega)
  have a2 : ∀ h : IH, dAdd (.str (60 :: qt s)) (.str [62]) h = .ok (.str (qq s)) h := fun h => dAdd_str (by simp; omega)
  generalize qq s = W at *
  generalize qt s = w at *
  generalize (s.map qs1).map D.str = SS at *
  unfold m_quoted
  generalize mFz (mLc (iSeq (mVar 0)) (gSet 1) mYes e_quoted_1 [1]) = CC at *
  simp [comp, jn, a1, a2]
/-! ### _law_written -/
theorem lw_comp {t : List Nat} {d n : Nat} {k : List Nat} {l : List D} {h : IH} {e : ME} (he : e = mCall 1 (m__law_written n) (mCons (mVar 1) (mNil))) (ll : l.length ≤ 6) (ih : ∀ y ∈ l, ∀ h, callC 1 (m__law_written n) [y] h = .ok (.str (wrD d y)) h) : mFz (mLc (iSeq (mOp dIx (mVar 0) (mC (.int 1)))) (gSet 1) mYes e [1]) [some (.tup [.str k, .tup l]), none] h = .ok (.fl ((l.map (wrD d)).map D.str)) h := by
  have := lcF_map (env := [some (.tup [.str k, .tup l]), none]) (h := h) (it := iSeq (mOp dIx (mVar 0) (mC (.int 1)))) (gg := gSet 1) (m := e) (ws := [1]) (ds := l) (fun y => .str (wrD d y)) (by simp) (by omega) (fun y _ => rfl) (fun y hy => ⟨_, rfl, fun x => by
    have := ih y hy (h ++ [x])
    rw [he]
    simp [wipeE, this]⟩)
  rw [this, List.map_map]
  rfl
theorem lw_call {t : List Nat} : ∀ (d n : Nat), d ≤ n → ∀ x, Sg t d x → (partsD d x).length ≤ 100 → ∀ h, callC 1 (m__law_written n) [x] h = .ok (.str (wrD d x)) h
  | 0, n, _, x, sx, _, h => by cases sx
  | d + 1, 0, dn, _, _, _, _ => by omega
  | d + 1, n + 1, dn, x, sx, px, h => by
    have ih := lw_call (t := t) d n (by omega)
    have wl := wr_len sx
    show callC 1 (B__law_written (m__law_written n)) [x] h = _
    refine callC_same rfl ?_
    have jl : ∀ l : List D, l.length ≤ 6 → (∀ y ∈ l, Sg t d y) → ((l.map (partsD d)).flatten).length ≤ 100 → ((l.map (wrD d)).map List.length).sum + (l.map (wrD d)).length * ([32] : List Nat).length ≤ 10000000 := fun l ll hl hp => by
      have : ∀ l : List D, (∀ y ∈ l, Sg t d y) → ((l.map (wrD d)).map List.length).sum ≤ 20 * ((l.map (partsD d)).flatten).length := by
        intro l
        induction l with
        | nil => intro _; simp
        | cons y l ih =>
          intro hy
          have h1 := wr_len (hy y List.mem_cons_self)
          have h2 := ih fun z hz => hy z (List.mem_cons_of_mem _ hz)
          simp only [List.map_cons, List.sum_cons, List.length_cons, List.flatten_cons, List.length_append] at *
          omega
      have := this l hl
      rw [List.length_map, List.length_singleton]
      omega
    unfold B__law_written
    rw [lOne, lRow, lEit, lMany4]
    cases sx with
    | @one _ s n1 n6 nd sub =>
      have qc := law_quote_call (s := s) (by omega) h
      rw [wr_one]
      generalize qq s = W at *
      simp [qc]
    | @row _ l n6 hl =>
      have pd : partsD (d + 1) (.tup [.str kRow, .tup l]) = .tup [.str kRow, .tup l] :: (l.map (partsD d)).flatten := by
        show _ :: ((innerD _).map (partsD d)).flatten = _
        rw [innerD_row]
      rw [pd, List.length_cons] at px wl
      have cp := lw_comp (t := t) (k := kRow) (d := d) (n := n) (l := l) (h := h) (e := e__law_written_1 (m__law_written n)) rfl n6 (fun y hy h => ih y (hl y hy) (Nat.le_trans (flat_mem (f := partsD d) hy) (by omega)) h)
      have jn := join_all (h := h) (jl l n6 hl (by omega))
      rw [wr_row] at wl ⊢
      generalize joinN [32] (l.map (wrD d)) = J at *
      rw [List.length_cons, List.length_append, List.length_singleton] at wl
      have a1 : ∀ h : IH, dAdd (.str [40]) (.str J) h = .ok (.str (40 :: J)) h := fun h => dAdd_str (by simp; omega)
      have a2 : ∀ h : IH, dAdd (.str (40 :: J)) (.str [41]) h = .ok (.str (40 :: (J ++ [41]))) h := fun h => dAdd_str (by simp; omega)
      generalize 40 :: (J ++ [41]) = W at *
      generalize (l.map (wrD d)).map D.str = SS at *
      generalize mFz (mLc (iSeq (mOp dIx (mVar 0) (mC (.int 1)))) (gSet 1) mYes (e__law_written_1 (m__law_written n)) [1]) = CC at *
      simp [cp, jn, a1, a2]
    | @eit _ l n6 n1 hl =>
      have pd : partsD (d + 1) (.tup [.str kEit, .tup l]) = .tup [.str kEit, .tup l] :: (l.map (partsD d)).flatten := by
        show _ :: ((innerD _).map (partsD d)).flatten = _
        rw [innerD_eit]
      rw [pd, List.length_cons] at px wl
      have cp := lw_comp (t := t) (k := kEit) (d := d) (n := n) (l := l) (h := h) (e := e__law_written_2 (m__law_written n)) rfl n6 (fun y hy h => ih y (hl y hy) (Nat.le_trans (flat_mem (f := partsD d) hy) (by omega)) h)
      have jn := join_all (h := h) (jl l n6 hl (by omega))
      rw [wr_eit] at wl ⊢
      generalize joinN [32] (l.map (wrD d)) = J at *
      rw [List.length_cons, List.length_append, List.length_singleton] at wl
      have a1 : ∀ h : IH, dAdd (.str [123]) (.str J) h = .ok (.str (123 :: J)) h := fun h => dAdd_str (by simp; omega)
      have a2 : ∀ h : IH, dAdd (.str (123 :: J)) (.str [125]) h = .ok (.str (123 :: (J ++ [125]))) h := fun h => dAdd_str (by simp; omega)
      generalize 123 :: (J ++ [125]) = W at *
      generalize (l.map (wrD d)).map D.str = SS at *
      generalize mFz (mLc (iSeq (mOp dIx (mVar 0) (mC (.int 1)))) (gSet 1) mYes (e__law_written_2 (m__law_written n)) [1]) = CC at *
      simp [cp, jn, a1, a2]
    | @many _ p hp =>
      have pd : partsD (d + 1) (.tup [.str kMany, p]) = .tup [.str kMany, p] :: partsD d p := by
        show _ :: ((innerD _).map (partsD d)).flatten = _
        rw [innerD_many]
        simp
      rw [pd, List.length_cons] at px wl
      have c1 := ih p hp (by omega) h
      rw [wr_many] at wl ⊢
      rw [List.length_cons] at wl
      have a1 : ∀ h : IH, dAdd (.str [42]) (.str (wrD d p)) h = .ok (.str (42 :: wrD d p)) h := fun h => dAdd_str (by simp; omega)
      generalize 42 :: wrD d p = W at *
      generalize wrD d p = w at *
      simp [c1, a1]
    | @times _ p lo hi hp l0 lh h4 =>
      have pd : partsD (d + 1) (.tup [.str kTim, p, .int lo, .int hi]) = .tup [.str kTim, p, .int lo, .int hi] :: partsD d p := by
        show _ :: ((innerD _).map (partsD d)).flatten = _
        rw [innerD_times]
        simp
      rw [pd, List.length_cons] at px wl
      have c1 := ih p hp (by omega) h
      have wp := wr_len hp
      rw [wr_tim]
      have five : ∀ i : Int, 0 ≤ i → i ≤ 4 → ∀ h : IH, dIx (.str [48, 49, 50, 51, 52, 53]) (.int i) h = .ok (.str (dg i)) h := fun i i0 i4 h => by
        have : i = 0 ∨ i = 1 ∨ i = 2 ∨ i = 3 ∨ i = 4 := by omega
        rcases this with rfl | rfl | rfl | rfl | rfl <;> exact dIx_str (by omega) rfl (by simp)
      have d1 := five lo l0 (by omega)
      have d2 := five hi (by omega) h4
      clear five
      have a1 : ∀ h : IH, dAdd (.str (dg lo)) (.str [45]) h = .ok (.str (dg lo ++ [45])) h := fun h => dAdd_str (by unfold dg; simp)
      have a2 : ∀ h : IH, dAdd (.str (dg lo ++ [45])) (.str (dg hi)) h = .ok (.str (dg lo ++ [45] ++ dg hi)) h := fun h => dAdd_str (by unfold dg; simp)
      have a3 : ∀ h : IH, dAdd (.str (dg lo ++ [45] ++ dg hi)) (.str [58]) h = .ok (.str (dg lo ++ [45] ++ dg hi ++ [58])) h := fun h => dAdd_str (by unfold dg; simp)
      have a4 : ∀ h : IH, dAdd (.str (dg lo ++ [45] ++ dg hi ++ [58])) (.str (wrD d p)) h = .ok (.str (dg lo ++ [45] ++ dg hi ++ [58] ++ wrD d p)) h := fun h => dAdd_str (by unfold dg; simp; omega)
      have ew : dg lo ++ 45 :: (dg hi ++ 58 :: wrD d p) = dg lo ++ [45] ++ dg hi ++ [58] ++ wrD d p := by simp
      rw [ew]
      generalize dg lo ++ [45] ++ dg hi ++ [58] ++ wrD d p = W at *
      generalize dg lo ++ [45] ++ dg hi ++ [58] = w4 at *
      generalize dg lo ++ [45] ++ dg hi = w3 at *
      generalize dg lo ++ [45] = w2 at *
      generalize dg lo = w1 at *
      generalize dg hi = w0 at *
      generalize wrD d p = w at *
      simp [c1, d1, d2, a1, a2, a3, a4]
/-! ### shape_text -/
theorem sx_comp {t : List Nat} {d n : Nat} {k : List Nat} {l : List D} {h : IH} {e : ME} (he : e = mCall 1 (m_shape_text n) (mCons (mVar 1) (mNil))) (ll : l.length ≤ 6) (ih : ∀ y ∈ l, ∀ h, callC 1 (m_shape_text n) [y] h = .ok (.str (wrD d y)) h) : mFz (mLc (iSeq (mOp dIx (mVar 0) (mC (.int 1)))) (gSet 1) mYes e [1]) [some (.tup [.str k, .tup l]), none] h = .ok (.fl ((l.map (wrD d)).map D.str)) h := by
  have := lcF_map (env := [some (.tup [.str k, .tup l]), none]) (h := h) (it := iSeq (mOp dIx (mVar 0) (mC (.int 1)))) (gg := gSet 1) (m := e) (ws := [1]) (ds := l) (fun y => .str (wrD d y)) (by simp) (by omega) (fun y _ => rfl) (fun y hy => ⟨_, rfl, fun x => by
    have := ih y hy (h ++ [x])
    rw [he]
    simp [wipeE, this]⟩)
  rw [this, List.map_map]
  rfl
theorem sx_call {t : List Nat} : ∀ (d n : Nat), d ≤ n → ∀ x, Sg t d x → (partsD d x).length ≤ 100 → ∀ h, callC 1 (m_shape_text n) [x] h = .ok (.str (wrD d x)) h
  | 0, n, _, x, sx, _, h => by cases sx
  | d + 1, 0, dn, _, _, _, _ => by omega
  | d + 1, n + 1, dn, x, sx, px, h => by
    have ih := sx_call (t := t) d n (by omega)
    have wl := wr_len sx
    show callC 1 (B_shape_text (m_shape_text n)) [x] h = _
    refine callC_same rfl ?_
    have jl : ∀ l : List D, l.length ≤ 6 → (∀ y ∈ l, Sg t d y) → ((l.map (partsD d)).flatten).length ≤ 100 → ((l.map (wrD d)).map List.length).sum + (l.map (wrD d)).length * ([32] : List Nat).length ≤ 10000000 := fun l ll hl hp => by
      have : ∀ l : List D, (∀ y ∈ l, Sg t d y) → ((l.map (wrD d)).map List.length).sum ≤ 20 * ((l.map (partsD d)).flatten).length := by
        intro l
        induction l with
        | nil => intro _; simp
        | cons y l ih =>
          intro hy
          have h1 := wr_len (hy y List.mem_cons_self)
          have h2 := ih fun z hz => hy z (List.mem_cons_of_mem _ hz)
          simp only [List.map_cons, List.sum_cons, List.length_cons, List.flatten_cons, List.length_append] at *
          omega
      have := this l hl
      rw [List.length_map, List.length_singleton]
      omega
    unfold B_shape_text
    rw [lOne, lRow, lEit, lMany4]
    cases sx with
    | @one _ s n1 n6 nd sub =>
      have qc := quoted_call (s := s) (by omega) h
      rw [wr_one]
      generalize qq s = W at *
      simp [qc]
    | @row _ l n6 hl =>
      have pd : partsD (d + 1) (.tup [.str kRow, .tup l]) = .tup [.str kRow, .tup l] :: (l.map (partsD d)).flatten := by
        show _ :: ((innerD _).map (partsD d)).flatten = _
        rw [innerD_row]
      rw [pd, List.length_cons] at px wl
      have cp := sx_comp (t := t) (k := kRow) (d := d) (n := n) (l := l) (h := h) (e := e_shape_text_1 (m_shape_text n)) rfl n6 (fun y hy h => ih y (hl y hy) (Nat.le_trans (flat_mem (f := partsD d) hy) (by omega)) h)
      have jn := join_all (h := h) (jl l n6 hl (by omega))
      rw [wr_row] at wl ⊢
      generalize joinN [32] (l.map (wrD d)) = J at *
      rw [List.length_cons, List.length_append, List.length_singleton] at wl
      have a1 : ∀ h : IH, dAdd (.str [40]) (.str J) h = .ok (.str (40 :: J)) h := fun h => dAdd_str (by simp; omega)
      have a2 : ∀ h : IH, dAdd (.str (40 :: J)) (.str [41]) h = .ok (.str (40 :: (J ++ [41]))) h := fun h => dAdd_str (by simp; omega)
      generalize 40 :: (J ++ [41]) = W at *
      generalize (l.map (wrD d)).map D.str = SS at *
      generalize mFz (mLc (iSeq (mOp dIx (mVar 0) (mC (.int 1)))) (gSet 1) mYes (e_shape_text_1 (m_shape_text n)) [1]) = CC at *
      simp [cp, jn, a1, a2]
    | @eit _ l n6 n1 hl =>
      have pd : partsD (d + 1) (.tup [.str kEit, .tup l]) = .tup [.str kEit, .tup l] :: (l.map (partsD d)).flatten := by
        show _ :: ((innerD _).map (partsD d)).flatten = _
        rw [innerD_eit]
      rw [pd, List.length_cons] at px wl
      have cp := sx_comp (t := t) (k := kEit) (d := d) (n := n) (l := l) (h := h) (e := e_shape_text_2 (m_shape_text n)) rfl n6 (fun y hy h => ih y (hl y hy) (Nat.le_trans (flat_mem (f := partsD d) hy) (by omega)) h)
      have jn := join_all (h := h) (jl l n6 hl (by omega))
      rw [wr_eit] at wl ⊢
      generalize joinN [32] (l.map (wrD d)) = J at *
      rw [List.length_cons, List.length_append, List.length_singleton] at wl
      have a1 : ∀ h : IH, dAdd (.str [123]) (.str J) h = .ok (.str (123 :: J)) h := fun h => dAdd_str (by simp; omega)
      have a2 : ∀ h : IH, dAdd (.str (123 :: J)) (.str [125]) h = .ok (.str (123 :: (J ++ [125]))) h := fun h => dAdd_str (by simp; omega)
      generalize 123 :: (J ++ [125]) = W at *
      generalize (l.map (wrD d)).map D.str = SS at *
      generalize mFz (mLc (iSeq (mOp dIx (mVar 0) (mC (.int 1)))) (gSet 1) mYes (e_shape_text_2 (m_shape_text n)) [1]) = CC at *
      simp [cp, jn, a1, a2]
    | @many _ p hp =>
      have pd : partsD (d + 1) (.tup [.str kMany, p]) = .tup [.str kMany, p] :: partsD d p := by
        show _ :: ((innerD _).map (partsD d)).flatten = _
        rw [innerD_many]
        simp
      rw [pd, List.length_cons] at px wl
      have c1 := ih p hp (by omega) h
      rw [wr_many] at wl ⊢
      rw [List.length_cons] at wl
      have a1 : ∀ h : IH, dAdd (.str [42]) (.str (wrD d p)) h = .ok (.str (42 :: wrD d p)) h := fun h => dAdd_str (by simp; omega)
      generalize 42 :: wrD d p = W at *
      generalize wrD d p = w at *
      simp [c1, a1]
    | @times _ p lo hi hp l0 lh h4 =>
      have pd : partsD (d + 1) (.tup [.str kTim, p, .int lo, .int hi]) = .tup [.str kTim, p, .int lo, .int hi] :: partsD d p := by
        show _ :: ((innerD _).map (partsD d)).flatten = _
        rw [innerD_times]
        simp
      rw [pd, List.length_cons] at px wl
      have c1 := ih p hp (by omega) h
      have wp := wr_len hp
      rw [wr_tim]
      have five : ∀ i : Int, 0 ≤ i → i ≤ 4 → ∀ h : IH, bStr1 [.int i] h = .ok (.str (dg i)) h := fun i i0 i4 h => by
        have i5 : i = 0 ∨ i = 1 ∨ i = 2 ∨ i = 3 ∨ i = 4 := by omega
        have e1 : i.natAbs.log2 < 1920 := by rcases i5 with rfl | rfl | rfl | rfl | rfl <;> decide
        have e2 : (PySem.Str.cps (toString i)).toList = dg i := by rcases i5 with rfl | rfl | rfl | rfl | rfl <;> decide +kernel
        show (if i.natAbs.log2 < 1920 then R.ok (D.str (PySem.Str.cps (toString i)).toList) h else .no) = _
        rw [if_pos e1, e2]
      have d1 := five lo l0 (by omega)
      have d2 := five hi (by omega) h4
      clear five
      have a1 : ∀ h : IH, dAdd (.str (dg lo)) (.str [45]) h = .ok (.str (dg lo ++ [45])) h := fun h => dAdd_str (by unfold dg; simp)
      have a2 : ∀ h : IH, dAdd (.str (dg lo ++ [45])) (.str (dg hi)) h = .ok (.str (dg lo ++ [45] ++ dg hi)) h := fun h => dAdd_str (by unfold dg; simp)
      have a3 : ∀ h : IH, dAdd (.str (dg lo ++ [45] ++ dg hi)) (.str [58]) h = .ok (.str (dg lo ++ [45] ++ dg hi ++ [58])) h := fun h => dAdd_str (by unfold dg; simp)
      have a4 : ∀ h : IH, dAdd (.str (dg lo ++ [45] ++ dg hi ++ [58])) (.str (wrD d p)) h = .ok (.str (dg lo ++ [45] ++ dg hi ++ [58] ++ wrD d p)) h := fun h => dAdd_str (by unfold dg; simp; omega)
      have ew : dg lo ++ 45 :: (dg hi ++ 58 :: wrD d p) = dg lo ++ [45] ++ dg hi ++ [58] ++ wrD d p := by simp
      rw [ew]
      generalize dg lo ++ [45] ++ dg hi ++ [58] ++ wrD d p = W at *
      generalize dg lo ++ [45] ++ dg hi ++ [58] = w4 at *
      generalize dg lo ++ [45] ++ dg hi = w3 at *
      generalize dg lo ++ [45] = w2 at *
      generalize dg lo = w1 at *
      generalize dg hi = w0 at *
      generalize wrD d p = w at *
      simp [c1, d1, d2, a1, a2, a3, a4]
end NR

set_option Elab.async false
set_option linter.all false
set_option maxRecDepth 100000
set_option maxHeartbeats 4000000
namespace NR
open PySem PySem.Spec PyProof.Rows L2
/-! ### what a quote tells -/
def uq (acc : List Nat) : List Nat → Option (List Nat × List Nat)
  | [] => none
  | c :: r => if c = 62 then some (acc, r) else if c = 10 then none else if c = 92 then (match r with
    | [] => none
    | d :: r2 => if d = 110 then uq (acc ++ [10]) r2 else if d = 92 ∨ d = 62 then uq (acc ++ [d]) r2 else none) else uq (acc ++ [c]) r
theorem behind_n (h : IH) : callC 1 m_sign_behind [.str [110]] h = .ok (.str [10]) h := callC_same rfl (by unfold m_sign_behind; simp)
theorem behind_c {c : Nat} (q : c = 92 ∨ c = 62) (h : IH) : callC 1 m_sign_behind [.str [c]] h = .ok (.str [c]) h := callC_same rfl (by
  unfold m_sign_behind
  have h1 : c ≠ 110 := by omega
  simp [h1, two_signs, dIn_strs, q, -List.map_cons, -List.map_nil])
theorem behind_no {x : List Nat} (q1 : x ≠ [110]) (q2 : x ≠ [92]) (q3 : x ≠ [62]) (h : IH) : callC 1 m_sign_behind [.str x] h = .ex "NoQuote" none h := callC_ex (g := []) rfl (by
  unfold m_sign_behind
  simp [q1, q2, q3, two_signs, dIn_strs, -List.map_cons, -List.map_nil])
section
variable {s : List Nat} {h : IH}
theorem sl1 (sl : s.length ≤ 10000) (p : Nat) (h : IH) : sliceD (.str s) (some (p : Nat)) (some ((p : Int) + 1)) h = .ok (.str ((s.drop p).take 1)) h := by
  rw [sliceD_str (by omega), cutN_two (by omega) (by omega), show ((p : Int) + 1).toNat - (p : Int).toNat = 1 by omega, Int.toNat_natCast]
theorem two_ends : D.tup [.str [62], .str [10]] = .tup (([[62], [10]] : List (List Nat)).map D.str) := rfl
noncomputable def qaTail : MS := msCons (msIf (mTb (mOp (dEq true) (mFz (mSlice (mVar 0) (moSome (mVar 1)) (moSome (mOp dAdd (mVar 1) (mC (.int 1)))))) (mC (.str [62])))) (msRaise "NoQuote") (msNil))
    (msRet (mTup (mCons (mVar 2) (mCons (mOp dAdd (mVar 1) (mC (.int 1))) (mNil)))))
theorem qa_loop (sl : s.length ≤ 10000) : ∀ (n p : Nat) (acc : List Nat), s.length < p + n → p ≤ s.length → acc.length ≤ p →
    ((msWhile t_quote_at_1 b_quote_at_2 [some (.str s), some (.int (p : Nat)), some (.str acc)] h).then qaTail).fin = match uq acc (s.drop p) with
      | some (t, r) => .ok (.tup [.str t, .int ((s.length - r.length : Nat) : Int)]) h
      | none => .ex "NoQuote" none h
  | 0, p, acc, _, _, _ => by omega
  | n + 1, p, acc, n1, p1, al => by
    have bl : ∀ h : IH, bLen [.str s] h = .ok (.int (s.length : Nat)) h := fun h => bLen_str (by omega)
    have s1 := sl1 sl p h
    rw [msWhile_eq]
    by_cases q : s.length ≤ p
    · have d0 : s.drop p = [] := List.drop_eq_nil_of_le q
      have q' : ¬ (p : Int) < (s.length : Nat) := by omega
      have e : t_quote_at_1 [some (.str s), some (.int (p : Nat)), some (.str acc)] h = .ok false h := by
        unfold t_quote_at_1
        simp [bl]
        omega
      rw [e, d0]
      rw [d0] at s1
      dsimp only
      rw [then_nx]
      unfold qaTail uq
      simp at s1
      simp [s1]
    · have hp : p < s.length := by omega
      have ec : s[p]? = some s[p] := List.getElem?_eq_getElem hp
      have dp : s.drop p = s[p] :: s.drop (p + 1) := List.drop_eq_getElem_cons hp
      generalize s[p] = c at *
      have ix : ∀ h : IH, dIx (.str s) (.int (p : Nat)) h = .ok (.str [c]) h := fun h => dIx_str (by omega) (by rw [Int.toNat_natCast]; exact ec) (by omega)
      have q' : p < s.length := hp
      rw [dp] at s1 ⊢
      rw [show (c :: s.drop (p + 1)).take 1 = [c] from rfl] at s1
      have et : t_quote_at_1 [some (.str s), some (.int (p : Nat)), some (.str acc)] h = .ok (!decide (c = 62 ∨ c = 10)) h := by
        unfold t_quote_at_1
        simp [bl, ix, q', two_ends, dIn_strs, -List.map_cons, -List.map_nil]
      by_cases c1 : c = 62
      · subst c1
        rw [et]
        simp only [decide_true, true_or, Bool.not_true]
        rw [then_nx]
        unfold qaTail uq
        have : s.length - (s.length - (p + 1)) = p + 1 := by omega
        simp [s1, this]
      · by_cases c2 : c = 10
        · subst c2
          rw [et]
          simp only [decide_true, or_true, Bool.not_true]
          rw [then_nx]
          unfold qaTail uq
          simp [s1]
        · have : (!decide (c = 62 ∨ c = 10)) = true := by simp [c1, c2]
          rw [et, this]
          dsimp only
          unfold uq
          rw [if_neg c1, if_neg c2]
          by_cases c3 : c = 92
          · subst c3
            rw [if_pos rfl]
            have s2 := sl1 sl (p + 1) h
            rw [show ((p + 1 : Nat) : Int) = (p : Int) + 1 by omega] at s2
            cases hr : s.drop (p + 1) with
            | nil =>
              rw [hr] at s2
              simp only [List.take_nil] at s2
              have bh := behind_no (x := []) (by simp) (by simp) (by simp) h
              have : ∃ e', b_quote_at_2 [some (.str s), some (.int (p : Nat)), some (.str acc)] h = .ex "NoQuote" none e' h := by
                unfold b_quote_at_2
                simp [ix, s2, bh]
              obtain ⟨e', this⟩ := this
              rw [this]
              rfl
            | cons d r2 =>
              rw [hr] at s2
              rw [show (d :: r2).take 1 = [d] from rfl] at s2
              have hr2 : s.drop (p + 2) = r2 := by
                have : s.drop (p + 1 + 1) = (s.drop (p + 1)).drop 1 := by rw [List.drop_drop]
                rw [show p + 2 = p + 1 + 1 by omega, this, hr]
                rfl
              have p2 : p + 2 ≤ s.length := by
                have := congrArg List.length hr
                rw [List.length_drop, List.length_cons] at this
                omega
              dsimp only
              have good : ∀ x : Nat, callC 1 m_sign_behind [.str [d]] h = .ok (.str [x]) h → b_quote_at_2 [some (.str s), some (.int (p : Nat)), some (.str acc)] h = .nx [some (.str s), some (.int ((p + 2 : Nat) : Int)), some (.str (acc ++ [x]))] h := fun x bx => by
                have ia : ∀ h : IH, dIAdd (.str acc) (.str [x]) h = .ok (.str (acc ++ [x])) h := fun h => dIAdd_str (by simp; omega)
                have e2 : ((p + 2 : Nat) : Int) = (p : Int) + 1 + 1 := by omega
                rw [e2]
                unfold b_quote_at_2
                simp [ix, s2, bx, ia]
              by_cases d1 : d = 110
              · subst d1
                rw [if_pos rfl, good 10 (behind_n h)]
                dsimp only
                rw [qa_loop sl n (p + 2) (acc ++ [10]) (by omega) p2 (by simp; omega), hr2]
              · rw [if_neg d1]
                by_cases d2 : d = 92 ∨ d = 62
                · rw [if_pos d2, good d (behind_c d2 h)]
                  dsimp only
                  rw [qa_loop sl n (p + 2) (acc ++ [d]) (by omega) p2 (by simp; omega), hr2]
                · rw [if_neg d2]
                  have bh := behind_no (x := [d]) (by simpa using d1) (by simpa using fun z => d2 (.inl z)) (by simpa using fun z => d2 (.inr z)) h
                  have : ∃ e', b_quote_at_2 [some (.str s), some (.int (p : Nat)), some (.str acc)] h = .ex "NoQuote" none e' h := by
                    unfold b_quote_at_2
                    simp [ix, s2, bh]
                  obtain ⟨e', this⟩ := this
                  rw [this]
                  rfl
          · rw [if_neg c3]
            have ia : ∀ h : IH, dIAdd (.str acc) (.str [c]) h = .ok (.str (acc ++ [c])) h := fun h => dIAdd_str (by simp; omega)
            have : b_quote_at_2 [some (.str s), some (.int (p : Nat)), some (.str acc)] h = .nx [some (.str s), some (.int ((p + 1 : Nat) : Int)), some (.str (acc ++ [c]))] h := by
              unfold b_quote_at_2
              simp [ix, c3, ia]
            rw [this]
            dsimp only
            rw [qa_loop sl n (p + 1) (acc ++ [c]) (by omega) (by omega) (by simp; omega)]
end
theorem uq_qt : ∀ (f acc post : List Nat), uq acc (qt f ++ 62 :: post) = some (acc ++ f, post)
  | [], acc, post => by
    show uq acc (62 :: post) = _
    unfold uq
    rw [if_pos rfl, List.append_nil]
  | c :: f, acc, post => by
    have e : qt (c :: f) = qs1 c ++ qt f := rfl
    rw [e]
    unfold qs1
    by_cases q : c = 10
    · rw [if_pos q]
      show uq acc (92 :: 110 :: (qt f ++ 62 :: post)) = _
      unfold uq
      rw [if_neg (by decide), if_neg (by decide), if_pos rfl]
      dsimp only
      rw [if_pos rfl, uq_qt f, q, List.append_assoc]
      rfl
    · rw [if_neg q]
      by_cases q2 : c = 62 ∨ c = 92
      · rw [if_pos q2]
        show uq acc (92 :: c :: (qt f ++ 62 :: post)) = _
        unfold uq
        rw [if_neg (by decide), if_neg (by decide), if_pos rfl]
        dsimp only
        rw [if_neg (by omega), if_pos q2.symm, uq_qt f, List.append_assoc]
        rfl
      · rw [if_neg q2]
        show uq acc (c :: (qt f ++ 62 :: post)) = _
        unfold uq
        rw [if_neg (fun z => q2 (.inl z)), if_neg q, if_neg (fun z => q2 (.inr z)), uq_qt f, List.append_assoc]
        rfl
theorem quote_at_call {s f post : List Nat} {p : Nat} (sl : s.length ≤ 10000) (hd : s.drop p = qq f ++ post) (h : IH) : callC 2 m_quote_at [.str s, .int (p : Nat)] h = .ok (.tup [.str f, .int ((p + (qq f).length : Nat) : Int)]) h := by
  have hd2 : s.drop (p + 1) = qt f ++ 62 :: post := by
    rw [← List.drop_drop, hd]
    unfold qq
    simp
  have ll : s.length = p + (qq f).length + post.length := by
    have h1 := congrArg List.length hd
    rw [List.length_drop, List.length_append] at h1
    have h2 : 0 < (qq f).length := by unfold qq; simp
    omega
  have ql : (qq f).length = (qt f).length + 2 := by unfold qq; simp
  have s1 := sl1 sl p h
  rw [hd] at s1
  have s1 : sliceD (.str s) (some (p : Nat)) (some ((p : Int) + 1)) h = .ok (.str [60]) h := s1
  have lp := qa_loop (h := h) sl (s.length + 1) (p + 1) [] (by omega) (by omega) (by simp)
  rw [hd2, uq_qt] at lp
  dsimp only at lp
  rw [List.nil_append, show s.length - post.length = p + (qq f).length by omega] at lp
  refine callC_same rfl ?_
  unfold m_quote_at
  rw [ap_fnM]
  simp only [List.map_cons, List.map_nil, List.length_cons, List.length_nil, List.cons_append, List.nil_append, Nat.reduceAdd, Nat.reduceSub, List.replicate]
  refine stN (env2 := [some (.str s), some (.int (p : Nat)), none]) (h2 := h) (by simp [s1]) ?_
  refine stN (env2 := [some (.str s), some (.int (p : Nat)), some (.str [])]) (h2 := h) (by simp) ?_
  refine stN (env2 := [some (.str s), some (.int ((p + 1 : Nat) : Int)), some (.str [])]) (h2 := h) (by simp) ?_
  rw [ap_msCons]
  exact lp
theorem one_at_call {s f post : List Nat} {p : Nat} (sl : s.length ≤ 10000) (hd : s.drop p = qq f ++ post) (h : IH) : callC 2 m_one_at [.str s, .int (p : Nat)] h = .ok (.tup [.tup [.str kOne, .str f], .int ((p + (qq f).length : Nat) : Int)]) h := by
  have qc := quote_at_call sl hd h
  refine callC_same rfl ?_
  generalize ((p + (qq f).length : Nat) : Int) = e at *
  have bd : b_one_at_1 [some (.str s), some (.int (p : Nat)), none, none] h = .nx [some (.str s), some (.int (p : Nat)), some (.str f), some (.int e)] h := by
    unfold b_one_at_1
    simp [qc, gSets]
  unfold m_one_at
  rw [ap_fnM]
  simp only [List.map_cons, List.map_nil, List.length_cons, List.length_nil, List.cons_append, List.nil_append, Nat.reduceAdd, Nat.reduceSub, List.replicate]
  refine stN (env2 := [some (.str s), some (.int (p : Nat)), some (.str f), some (.int e)]) (h2 := h) (by
    unfold msTry
    rw [bd]) ?_
  simp [kOne]
end NR

set_option Elab.async false
set_option linter.all false
set_option maxRecDepth 100000
set_option maxHeartbeats 4000000
namespace NR
open PySem PySem.Spec PyProof.Rows L2
/-! ### what is written is read -/
theorem wr_head {t : List Nat} {d : Nat} {x : D} (h : Sg t d x) : ∃ c w, wrD d x = c :: w ∧ c ≠ 41 ∧ c ≠ 125 := by
  cases h with
  | one => exact ⟨60, _, wr_one, by decide, by decide⟩
  | row => exact ⟨40, _, wr_row, by decide, by decide⟩
  | eit => exact ⟨123, _, wr_eit, by decide, by decide⟩
  | many => exact ⟨42, _, wr_many, by decide, by decide⟩
  | @times d p lo hi _ l0 lh h4 =>
    refine ⟨48 + lo.toNat, _, wr_tim, by omega, by omega⟩
section
variable {s : List Nat}
theorem ch_at (sl : s.length ≤ 10000) {p c : Nat} {r : List Nat} (hd : s.drop p = c :: r) (h : IH) : dIx (.str s) (.int (p : Nat)) h = .ok (.str [c]) h := by
  refine dIx_str (by omega) ?_ (by omega)
  have := congrArg (fun l : List Nat => l[0]?) hd
  simpa [List.getElem?_drop] using this
theorem sl_at (sl : s.length ≤ 10000) {p c : Nat} {r : List Nat} (hd : s.drop p = c :: r) (h : IH) : sliceD (.str s) (some (p : Nat)) (some ((p : Int) + 1)) h = .ok (.str [c]) h := by
  have := sl1 sl p h
  rw [hd] at this
  exact this
theorem drop_more {p : Nat} {a r : List Nat} (hd : s.drop p = a ++ r) : s.drop (p + a.length) = r := by
  rw [← List.drop_drop, hd, List.drop_left]
theorem figure_call (sl : s.length ≤ 10000) {p : Nat} {i : Int} {r : List Nat} (i0 : 0 ≤ i) (i4 : i ≤ 4) (hd : s.drop p = (48 + i.toNat) :: r) (h : IH) : callC 2 m_figure_at [.str s, .int (p : Nat)] h = .ok (.int i) h := by
  have c1 := ch_at sl hd h
  have c2 := sl_at sl hd h
  refine callC_same rfl ?_
  have i5 : i = 0 ∨ i = 1 ∨ i = 2 ∨ i = 3 ∨ i = 4 := by omega
  unfold m_figure_at c_FIGURES
  rcases i5 with rfl | rfl | rfl | rfl | rfl
  · have ff : fFind (.str [48, 49, 50, 51, 52, 53, 54, 55, 56, 57]) [.str [48]] h = .ok (.int 0) h := by rfl
    simp [c1, c2, ff]
  · have ff : fFind (.str [48, 49, 50, 51, 52, 53, 54, 55, 56, 57]) [.str [49]] h = .ok (.int 1) h := by rfl
    simp [c1, c2, ff]
  · have ff : fFind (.str [48, 49, 50, 51, 52, 53, 54, 55, 56, 57]) [.str [50]] h = .ok (.int 2) h := by rfl
    simp [c1, c2, ff]
  · have ff : fFind (.str [48, 49, 50, 51, 52, 53, 54, 55, 56, 57]) [.str [51]] h = .ok (.int 3) h := by rfl
    simp [c1, c2, ff]
  · have ff : fFind (.str [48, 49, 50, 51, 52, 53, 54, 55, 56, 57]) [.str [52]] h = .ok (.int 4) h := by rfl
    simp [c1, c2, ff]
end
def SA (t : List Nat) (d n : Nat) : Prop := ∀ (x : D), Sg t d x → ∀ (s post : List Nat) (p deep : Nat) (h : IH), s.length ≤ 10000 → s.drop p = wrD d x ++ post → d ≤ deep → callC 3 (m_shape_at n) [.str s, .int (p : Nat), .int (deep : Nat)] h = .ok (.tup [x, .int ((p + (wrD d x).length : Nat) : Int)]) h
abbrev paE (s : List Nat) (p : Nat) (cl deep n : Nat) (x5 x6 : Option D) : EV := [some (.str s), some (.int (p : Nat)), some (.str [cl]), some (.int (deep : Nat)), some (.ref n), x5, x6]
theorem pa_loop {t : List Nat} {d n : Nat} (ok : SA t d n) {s : List Nat} (sl : s.length ≤ 10000) {cl deep : Nat} (hc : cl = 41 ∨ cl = 125) (dd : d ≤ deep) {post : List Nat} {h : IH} {rp rt : MF} : ∀ (l : List D) (y : D) (acc : List D) (p : Nat) (x5 x6 : Option D), acc.length + l.length ≤ 1000 → Sg t d y → (∀ z ∈ l, Sg t d z) → s.drop p = joinN [32] ((y :: l).map (wrD d)) ++ cl :: post →
    msWhile (t_parts_at_1 rp rt (m_shape_at n)) (b_parts_at_2 rp rt (m_shape_at n)) (paE s p cl deep h.length x5 x6) (h ++ [.lst acc]) = .rt (.tup [.tup (acc ++ y :: l), .int ((p + (joinN [32] ((y :: l).map (wrD d))).length + 1 : Nat) : Int)]) (h ++ [.lst (acc ++ y :: l)])
  | l, y, acc, p, x5, x6, al, sy, hl, hd => by
    have tt : t_parts_at_1 rp rt (m_shape_at n) (paE s p cl deep h.length x5 x6) (h ++ [.lst acc]) = .ok true (h ++ [.lst acc]) := by
      unfold t_parts_at_1
      simp
    rw [msWhile_eq, tt]
    dsimp only
    have ap : fAppend (.ref h.length) [y] (h ++ [.lst acc]) = .ok .non (h ++ [.lst (acc ++ [y])]) := by
      rw [append_at get_last (by omega), set_last]
    have ty := tyD_ref (get_last (h := h) (c := .lst acc))
    cases l with
    | nil =>
      have hd1 : s.drop p = wrD d y ++ cl :: post := hd
      have c1 := ok y sy s (cl :: post) p deep (h ++ [.lst acc]) sl hd1 dd
      have hd2 := drop_more hd1
      have sg := sl_at sl hd2
      have jl : joinN [32] ([y].map (wrD d)) = wrD d y := rfl
      rw [jl]
      generalize p + (wrD d y).length = q at *
      have bt := bTupleX_ref (get_last (h := h) (c := .lst (acc ++ [y])))
      have bd : b_parts_at_2 rp rt (m_shape_at n) (paE s p cl deep h.length x5 x6) (h ++ [.lst acc]) = .rt (.tup [.tup (acc ++ [y]), .int ((q + 1 : Nat) : Int)]) (h ++ [.lst (acc ++ [y])]) := by
        unfold b_parts_at_2 paE
        generalize h ++ [.lst (acc ++ [y])] = H2 at *
        generalize h ++ [.lst acc] = H1 at *
        generalize h.length = N at *
        have sg1 := sg H2
        simp [c1, gSets, ty, ap, sg1, bt]
      rw [bd]
    | cons z l =>
      have jl : joinN [32] ((y :: z :: l).map (wrD d)) = wrD d y ++ [32] ++ joinN [32] ((z :: l).map (wrD d)) := rfl
      rw [jl, List.append_assoc, List.append_assoc] at hd
      have c1 := ok y sy s _ p deep (h ++ [.lst acc]) sl hd dd
      have hd2 : s.drop (p + (wrD d y).length) = 32 :: (joinN [32] ((z :: l).map (wrD d)) ++ cl :: post) := drop_more hd
      have sg := sl_at sl hd2
      have hd3 : s.drop (p + (wrD d y).length + 1) = joinN [32] ((z :: l).map (wrD d)) ++ cl :: post := by
        rw [← List.drop_drop, hd2]
        rfl
      rw [jl, List.length_append, List.length_append, List.length_singleton]
      rw [show p + ((wrD d y).length + 1 + (joinN [32] ((z :: l).map (wrD d))).length) + 1 = (p + (wrD d y).length + 1) + (joinN [32] ((z :: l).map (wrD d))).length + 1 by omega]
      generalize p + (wrD d y).length = q at *
      have c32 : ¬ (32 = cl) := by omega
      have bd : b_parts_at_2 rp rt (m_shape_at n) (paE s p cl deep h.length x5 x6) (h ++ [.lst acc]) = .nx (paE s (q + 1) cl deep h.length (some y) (some (.str [32]))) (h ++ [.lst (acc ++ [y])]) := by
        unfold b_parts_at_2 paE
        generalize h ++ [.lst (acc ++ [y])] = H2 at *
        generalize h ++ [.lst acc] = H1 at *
        generalize h.length = N at *
        have sg1 := sg H2
        simp [c1, gSets, ty, ap, sg1, c32]
      rw [bd]
      dsimp only
      rw [pa_loop ok sl hc dd l z (acc ++ [y]) (q + 1) _ _ (by rw [List.length_append, List.length_singleton]; simp only [List.length_cons] at al; omega) (hl z List.mem_cons_self) (fun w hw => hl w (List.mem_cons_of_mem _ hw)) hd3]
      simp
theorem parts_at_call {t : List Nat} {d n : Nat} (ok : SA t d n) {s : List Nat} (sl : s.length ≤ 10000) {cl deep : Nat} (hc : cl = 41 ∨ cl = 125) (dd : d ≤ deep) {post : List Nat} {l : List D} {p : Nat} (ll : l.length ≤ 6) (hl : ∀ z ∈ l, Sg t d z) (hd : s.drop p = joinN [32] (l.map (wrD d)) ++ cl :: post) (h : IH) :
    callC 4 (m_parts_at (n + 1)) [.str s, .int (p : Nat), .str [cl], .int (deep : Nat)] h = .ok (.tup [.tup l, .int ((p + (joinN [32] (l.map (wrD d))).length + 1 : Nat) : Int)]) h := by
  show callC 4 (B_parts_at (m_parts_at n) (m_times_at n) (m_shape_at n)) _ h = _
  cases l with
  | nil =>
    have hd1 : s.drop p = cl :: post := hd
    have sg := sl_at sl hd1 h
    refine callC_same rfl ?_
    have j0 : joinN [32] (([] : List D).map (wrD d)) = [] := rfl
    rw [j0]
    unfold B_parts_at
    simp [sg]
  | cons y l =>
    have sy := hl y List.mem_cons_self
    have lp := pa_loop ok sl hc dd (h := h) (rp := m_parts_at n) (rt := m_times_at n) l y [] p none none (by simp only [List.length_cons, List.length_nil] at *; omega) sy (fun w hw => hl w (List.mem_cons_of_mem _ hw)) hd
    obtain ⟨c, w, ew, c1, c2⟩ := wr_head sy
    have hc0 : ∃ r, s.drop p = c :: r := by
      rw [hd, List.map_cons, ew]
      cases l with
      | nil => exact ⟨_, rfl⟩
      | cons z l => exact ⟨_, rfl⟩
    obtain ⟨r, hr⟩ := hc0
    have sg := sl_at sl hr h
    have cn : ¬ c = cl := by omega
    rw [List.nil_append] at lp
    refine callC_pure (g := [.lst (y :: l)]) rfl ?_ ?_
    · unfold B_parts_at
      rw [ap_fnM]
      simp only [List.map_cons, List.map_nil, List.length_cons, List.length_nil, List.cons_append, List.nil_append, Nat.reduceAdd, Nat.reduceSub, List.replicate]
      refine stN (env2 := [some (.str s), some (.int (p : Nat)), some (.str [cl]), some (.int (deep : Nat)), none, none, none]) (h2 := h) (by simp [sg, cn]) ?_
      refine stN (env2 := paE s p cl deep h.length none none) (h2 := h ++ [.lst []]) (by
        unfold paE
        simp [newL]) ?_
      rw [lp]
      rfl
    · show D.loL _ _ = true
      refine loL_of fun x hx => ?_
      simp only [List.mem_cons, List.not_mem_nil, or_false] at hx
      rcases hx with rfl | rfl
      · show D.loL _ _ = true
        exact loL_of fun z hz => (hl z hz).lo _
      · rfl
end NR

set_option Elab.async false
set_option linter.all false
set_option maxRecDepth 100000
set_option maxHeartbeats 4000000
namespace NR
open PySem PySem.Spec PyProof.Rows L2
theorem cast1 (p : Nat) : ((p + 1 : Nat) : Int) = (p : Int) + 1 := by omega
theorem times_at_call {t : List Nat} {d n : Nat} (ok : SA t d n) {s : List Nat} (sl : s.length ≤ 10000) {e : Nat} (dd : d ≤ e) {post : List Nat} {y : D} {lo hi : Int} {p : Nat} (sy : Sg t d y) (l0 : 0 ≤ lo) (lh : lo ≤ hi) (h4 : hi ≤ 4) (hd : s.drop p = dg lo ++ 45 :: (dg hi ++ 58 :: wrD d y) ++ post) (h : IH) :
    callC 3 (m_times_at (n + 1)) [.str s, .int (p : Nat), .int ((e + 1 : Nat) : Int)] h = .ok (.tup [.tup [.str kTim, y, .int lo, .int hi], .int ((p + 4 + (wrD d y).length : Nat) : Int)]) h := by
  rw [m_times_at_succ]
  have d0 : s.drop p = (48 + lo.toNat) :: (45 :: (48 + hi.toNat) :: 58 :: (wrD d y ++ post)) := by rw [hd]; simp [dg]
  have d1 : s.drop (p + 1) = 45 :: (48 + hi.toNat) :: 58 :: (wrD d y ++ post) := by rw [← List.drop_drop, d0]; rfl
  have d2 : s.drop (p + 2) = (48 + hi.toNat) :: 58 :: (wrD d y ++ post) := by rw [← List.drop_drop, d0]; rfl
  have d3 : s.drop (p + 3) = 58 :: (wrD d y ++ post) := by rw [← List.drop_drop, d0]; rfl
  have d4 : s.drop (p + 4) = wrD d y ++ post := by rw [← List.drop_drop, d0]; rfl
  have f1 := figure_call sl l0 (by omega) d0 h
  have f2 := figure_call sl (by omega) h4 d2 h
  have c1 := ch_at sl d1 h
  have c3 := sl_at sl d3 h
  have c4 := ok y sy s post (p + 4) e h sl d4 dd
  rw [show ((p + 2 : Nat) : Int) = (p : Int) + 2 by omega] at f2
  rw [cast1] at c1
  rw [show ((p + 3 : Nat) : Int) = (p : Int) + 3 by omega, show (p : Int) + 3 + 1 = (p : Int) + 4 by omega] at c3
  rw [show ((p + 4 : Nat) : Int) = (p : Int) + 4 by omega] at c4
  refine callC_same rfl ?_
  have dm : ((e + 1 : Nat) : Int) - 1 = (e : Nat) := by omega
  generalize ((e + 1 : Nat) : Int) = de at *
  generalize ((p + 4 + (wrD d y).length : Nat) : Int) = q at *
  unfold B_times_at
  rw [lTim]
  simp [f1, f2, c1, c3, dm, c4, gSets]
theorem shape_at_call {t : List Nat} : ∀ (d n : Nat), 2 * d ≤ n → SA t d n
  | 0, n, _ => fun x sx => by cases sx
  | d + 1, 0, dn => by omega
  | d + 1, 1, dn => by omega
  | d + 1, k + 2, dn => by
    have ok1 := shape_at_call (t := t) d k (by omega)
    have ok2 := shape_at_call (t := t) d (k + 1) (by omega)
    intro x sx s post p deep h sl hd de
    obtain ⟨e, rfl⟩ : ∃ e, deep = e + 1 := ⟨deep - 1, by omega⟩
    rw [m_shape_at_succ]
    have dm : ((e + 1 : Nat) : Int) - 1 = (e : Nat) := by omega
    have dz : ¬ ((e + 1 : Nat) : Int) = 0 := by omega
    refine callC_same rfl ?_
    cases sx with
    | @one _ f n1 n6 nd sub =>
      rw [wr_one] at hd ⊢
      have c0 := sl_at sl (show s.drop p = 60 :: (qt f ++ [62] ++ post) from hd) h
      have oc := one_at_call sl hd h
      generalize ((e + 1 : Nat) : Int) = de at *
      generalize ((p + (qq f).length : Nat) : Int) = q at *
      unfold B_shape_at
      simp [c0, dz, oc]
    | @row _ l n6 hl =>
      rw [wr_row] at hd ⊢
      have hd2 : s.drop (p + 1) = joinN [32] (l.map (wrD d)) ++ 41 :: post := by rw [← List.drop_drop, hd]; simp
      have c0 := sl_at sl (show s.drop p = 40 :: (joinN [32] (l.map (wrD d)) ++ [41] ++ post) from hd) h
      have pc := parts_at_call ok1 sl (.inl rfl) (deep := e) (by omega) n6 hl hd2 h
      rw [cast1] at pc
      have eq : p + (40 :: (joinN [32] (l.map (wrD d)) ++ [41])).length = p + 1 + (joinN [32] (l.map (wrD d))).length + 1 := by
        rw [List.length_cons, List.length_append, List.length_singleton]
        omega
      rw [eq]
      generalize ((e + 1 : Nat) : Int) = de at *
      generalize ((p + 1 + (joinN [32] (l.map (wrD d))).length + 1 : Nat) : Int) = q at *
      unfold B_shape_at
      rw [lRow]
      simp [c0, dz, dm, pc, gSets]
    | @eit _ l n6 n1 hl =>
      rw [wr_eit] at hd ⊢
      have hd2 : s.drop (p + 1) = joinN [32] (l.map (wrD d)) ++ 125 :: post := by rw [← List.drop_drop, hd]; simp
      have c0 := sl_at sl (show s.drop p = 123 :: (joinN [32] (l.map (wrD d)) ++ [125] ++ post) from hd) h
      have pc := parts_at_call ok1 sl (.inr rfl) (deep := e) (by omega) n6 hl hd2 h
      rw [cast1] at pc
      have eq : p + (123 :: (joinN [32] (l.map (wrD d)) ++ [125])).length = p + 1 + (joinN [32] (l.map (wrD d))).length + 1 := by
        rw [List.length_cons, List.length_append, List.length_singleton]
        omega
      rw [eq]
      generalize ((e + 1 : Nat) : Int) = de at *
      generalize ((p + 1 + (joinN [32] (l.map (wrD d))).length + 1 : Nat) : Int) = q at *
      unfold B_shape_at
      rw [lEit]
      simp [c0, dz, dm, pc, gSets]
    | @many _ y hy =>
      rw [wr_many] at hd ⊢
      have hd2 : s.drop (p + 1) = wrD d y ++ post := by rw [← List.drop_drop, hd]; rfl
      have c0 := sl_at sl (show s.drop p = 42 :: (wrD d y ++ post) from hd) h
      have pc := ok2 y hy s post (p + 1) e h sl hd2 (by omega)
      rw [cast1] at pc
      have eq : p + (42 :: wrD d y).length = p + 1 + (wrD d y).length := by rw [List.length_cons]; omega
      rw [eq]
      generalize ((e + 1 : Nat) : Int) = de at *
      generalize ((p + 1 + (wrD d y).length : Nat) : Int) = q at *
      unfold B_shape_at
      rw [lMany4]
      simp [c0, dz, dm, pc, gSets]
    | @times _ y lo hi hy l0 lh h4 =>
      rw [wr_tim] at hd ⊢
      have c0 := sl_at sl (show s.drop p = (48 + lo.toNat) :: (45 :: (dg hi ++ 58 :: wrD d y) ++ post) by rw [hd]; simp [dg]) h
      have tc := times_at_call ok1 sl (e := e) (by omega) hy l0 lh h4 hd h
      have eq : p + (dg lo ++ 45 :: (dg hi ++ 58 :: wrD d y)).length = p + 4 + (wrD d y).length := by
        unfold dg
        simp only [List.length_append, List.length_cons, List.length_nil]
        omega
      rw [eq]
      have n1 : ¬ 48 + lo.toNat = 60 := by omega
      have n2 : ¬ 48 + lo.toNat = 40 := by omega
      have n3 : ¬ 48 + lo.toNat = 123 := by omega
      have n4 : ¬ 48 + lo.toNat = 42 := by omega
      generalize 48 + lo.toNat = c at *
      generalize ((e + 1 : Nat) : Int) = de at *
      generalize ((p + 4 + (wrD d y).length : Nat) : Int) = q at *
      unfold B_shape_at
      simp [c0, dz, n1, n2, n3, n4, tc]
/-! ### read_shape -/
theorem read_call {t : List Nat} (sub : ∀ c ∈ t, c ∈ allSigns) {d : Nat} {x : D} (sx : Sg t d x) (d5 : d ≤ 5) (px : (partsD d x).length ≤ 24) (h : IH) : callC 1 m_read_shape [.str (wrD d x)] h = .ok x h := by
  have wl := wr_len sx
  have sa := shape_at_call (t := t) d 24 (by omega) x sx (wrD d x) [] 0 5 h (by omega) (by rw [List.drop_zero, List.append_nil]) d5
  obtain ⟨f, cn, fk⟩ := sg_cn sub sx
  have is := is_shape_call cn h
  have f5 := fk 5 d5
  have p0 : (partsD d x).length ≠ 0 := parts_pos sx.sh
  rw [f5, decide_eq_true (by omega : 1 ≤ (partsD d x).length), decide_eq_true (by omega : (partsD d x).length ≤ 24)] at is
  have bl : bLen [.str (wrD d x)] h = .ok (.int ((wrD d x).length : Nat)) h := bLen_str (by omega)
  rw [Nat.zero_add] at sa
  have sa : callC 3 (m_shape_at 24) [.str (wrD d x), .int 0, .int 5] h = .ok (.tup [x, .int ((wrD d x).length : Nat)]) h := sa
  refine callC_same rfl ?_
  generalize ((wrD d x).length : Int) = q at *
  generalize wrD d x = w at *
  unfold m_read_shape c_DEEPEST
  simp [sa, gSets, bl, is]
end NR

set_option Elab.async false
set_option linter.all false
set_option maxRecDepth 100000
set_option maxHeartbeats 4000000
namespace NR
open PySem PySem.Spec PyProof.Rows L2
/-! ### a shape is like itself -/
def tsB : Nat → D → Bool
  | 0, _ => false
  | k + 1, d => match d with
    | .str s => decide (s.length ≤ 1000)
    | .int _ => true
    | .tup l => l.all (tsB k) && decide (l.length ≤ 1000)
    | _ => false
theorem tsB_mono : ∀ {k : Nat} {d : D}, tsB k d = true → tsB (k + 1) d = true
  | 0, d, h => by cases h
  | k + 1, d, h => by
    cases d with
    | tup l =>
      have h : (l.all (tsB k) && decide (l.length ≤ 1000)) = true := h
      rw [Bool.and_eq_true] at h
      show (l.all (tsB (k + 1)) && decide (l.length ≤ 1000)) = true
      rw [Bool.and_eq_true]
      exact ⟨List.all_eq_true.mpr fun x hx => tsB_mono (List.all_eq_true.mp h.1 x hx), h.2⟩
    | str s => exact h
    | int i => rfl
    | _ => cases h
theorem zipD_self : ∀ W : List D, List.zipWith (fun x y : D => D.tup [x, y]) W W = W.map fun x => .tup [x, x]
  | [] => rfl
  | a :: W => by rw [List.zipWith_cons_cons, List.map_cons, zipD_self W]
theorem alike_call : ∀ (n : Nat) (x : D), tsB n x = true → ∀ h, callC 2 (m__law_alike n) [x, x] h = .ok (.bl true) h
  | 0, x, hx, h => by cases hx
  | n + 1, x, hx, h => by
    have ih := alike_call n
    show callC 2 (B__law_alike (m__law_alike n)) [x, x] h = _
    refine callC_same rfl ?_
    cases x with
    | str s =>
      unfold B__law_alike
      simp [isT]
    | int i =>
      unfold B__law_alike
      simp [isT]
    | tup W =>
      have hx : (W.all (tsB n) && decide (W.length ≤ 1000)) = true := hx
      rw [Bool.and_eq_true] at hx
      have wl : W.length ≤ 1000 := by simpa using hx.2
      have zz := zipD_self W
      have comp := lcF_map (env := [some (.tup W), some (.tup W), none, none]) (h := h) (it := iZip (mCons (mVar 0) (mCons (mVar 1) (mNil)))) (ws := [2, 3]) (gg := gSets [2, 3]) (m := e__law_alike_1 (m__law_alike n)) (ds := W.map fun x => .tup [x, x]) (fun _ => .bl true) (by
        rw [← zz]
        simp [iZip, stOf]) (by rw [List.length_map]; omega) (fun d hd => rfl) (fun d hd => by
        obtain ⟨x, hx2, rfl⟩ := List.mem_map.mp hd
        refine ⟨_, rfl, fun y => ?_⟩
        have c := ih x (List.all_eq_true.mp hx.1 x hx2) (h ++ [y])
        unfold e__law_alike_1
        simp [wipeE, c])
      have em : (W.map fun x => D.tup [x, x]).map (fun _ => D.bl true) = (List.replicate W.length true).map D.bl := by
        rw [List.map_map, List.map_replicate]
        exact List.map_const' ..
      rw [em] at comp
      have ba : bAll [.fl ((List.replicate W.length true).map D.bl)] h = .ok (.bl true) h := by
        rw [bAll_fl]
        congr 2
        rw [List.all_eq_true]
        intro x hx
        rw [List.eq_of_mem_replicate hx]
        rfl
      have bl : bLen [.tup W] h = .ok (.int (W.length : Nat)) h := bLen_tup
      unfold B__law_alike
      generalize mFz (mLc (iZip (mCons (mVar 0) (mCons (mVar 1) (mNil)))) (gSets [2, 3]) mYes (e__law_alike_1 (m__law_alike n)) [2, 3]) = CC at *
      generalize (List.replicate W.length true).map D.bl = BB at *
      simp [comp, ba, bl, isT, -bAll_fl, -bLen_tup]
    | _ => cases hx
theorem sg_ts {t : List Nat} : ∀ {d : Nat} {x : D}, Sg t d x → tsB (2 * d) x = true := by
  intro d x h
  have two : ∀ d : Nat, 2 * (d + 1) = 2 * d + 1 + 1 := fun d => by omega
  have kk : ∀ (k : List Nat) (d : Nat), k.length ≤ 1000 → tsB (d + 1) (.str k) = true := fun k d h => decide_eq_true h
  induction h with
  | @one d s n1 n6 nd sub =>
    rw [two]
    show ([D.str kOne, D.str s].all (tsB (2 * d + 1)) && _) = true
    simp [kk kOne (2 * d) (by decide), kk s (2 * d) (by omega)]
  | @row d l n _ ih =>
    rw [two]
    have : tsB (2 * d + 1) (.tup l) = true := by
      show (l.all (tsB (2 * d)) && decide (l.length ≤ 1000)) = true
      rw [Bool.and_eq_true]
      exact ⟨List.all_eq_true.mpr ih, decide_eq_true (by omega)⟩
    show ([D.str kRow, D.tup l].all (tsB (2 * d + 1)) && _) = true
    simp [kk kRow (2 * d) (by decide), this]
  | @eit d l n _ _ ih =>
    rw [two]
    have : tsB (2 * d + 1) (.tup l) = true := by
      show (l.all (tsB (2 * d)) && decide (l.length ≤ 1000)) = true
      rw [Bool.and_eq_true]
      exact ⟨List.all_eq_true.mpr ih, decide_eq_true (by omega)⟩
    show ([D.str kEit, D.tup l].all (tsB (2 * d + 1)) && _) = true
    simp [kk kEit (2 * d) (by decide), this]
  | @many d p _ ih =>
    rw [two]
    show ([D.str kMany, p].all (tsB (2 * d + 1)) && _) = true
    simp [kk kMany (2 * d) (by decide), tsB_mono ih]
  | @times d p lo hi _ _ _ _ ih =>
    rw [two]
    have ii : ∀ i : Int, tsB (2 * d + 1) (.int i) = true := fun i => rfl
    show ([D.str kTim, p, D.int lo, D.int hi].all (tsB (2 * d + 1)) && _) = true
    simp [kk kTim (2 * d) (by decide), tsB_mono ih, ii]
theorem tsB_up {d : D} : ∀ {k n : Nat}, k ≤ n → tsB k d = true → tsB n d = true := by
  intro k n h
  induction h with
  | refl => exact id
  | step _ ih => exact fun z => tsB_mono (ih z)
end NR

set_option Elab.async false
set_option linter.all false
set_option maxRecDepth 100000
set_option maxHeartbeats 4000000
/-! Books written: their lines; what a line writes. -/
namespace NR
open PySem PySem.Spec PyProof.Rows L2
theorem Sg.up5 {t : List Nat} {d : Nat} {x : D} (h : Sg t d x) : ∀ {e : Nat}, d ≤ e → Sg t e x := by
  induction h with
  | one n1 n6 nd sub => intro e l; cases e with | zero => omega | succ e => exact .one n1 n6 nd sub
  | row n _ ih => intro e l; cases e with | zero => omega | succ e => exact .row n fun y hy => ih y hy (by omega)
  | eit n n1 _ ih => intro e l; cases e with | zero => omega | succ e => exact .eit n n1 fun y hy => ih y hy (by omega)
  | many _ ih => intro e l; cases e with | zero => omega | succ e => exact .many (ih (by omega))
  | times _ l0 lh h4 ih => intro e l; cases e with | zero => omega | succ e => exact .times (ih (by omega)) l0 lh h4
theorem parts_up {t : List Nat} {d : Nat} {x : D} (h : Sg t d x) : ∀ {e : Nat}, d ≤ e → partsD e x = partsD d x := by
  induction h with
  | one => intro e l; cases e with | zero => omega | succ e => rfl
  | @row d l n hl ih =>
    intro e le
    cases e with
    | zero => omega
    | succ e =>
      show _ :: ((innerD _).map (partsD e)).flatten = _ :: ((innerD _).map (partsD d)).flatten
      rw [innerD_row, List.map_congr_left fun y hy => ih y hy (by omega)]
  | @eit d l n n1 hl ih =>
    intro e le
    cases e with
    | zero => omega
    | succ e =>
      show _ :: ((innerD _).map (partsD e)).flatten = _ :: ((innerD _).map (partsD d)).flatten
      rw [innerD_eit, List.map_congr_left fun y hy => ih y hy (by omega)]
  | @many d p hp ih =>
    intro e le
    cases e with
    | zero => omega
    | succ e =>
      show _ :: ((innerD _).map (partsD e)).flatten = _ :: ((innerD _).map (partsD d)).flatten
      rw [innerD_many, List.map_cons, List.map_cons, ih (by omega)]
      rfl
  | @times d p lo hi hp l0 lh h4 ih =>
    intro e le
    cases e with
    | zero => omega
    | succ e =>
      show _ :: ((innerD _).map (partsD e)).flatten = _ :: ((innerD _).map (partsD d)).flatten
      rw [innerD_times, List.map_cons, List.map_cons, ih (by omega)]
      rfl
theorem RuleOk.five {t : List Nat} {r : D} (h : RuleOk t r) : ∃ nm x, r = .tup [.str nm, x] ∧ Sg t 5 x ∧ (partsD 5 x).length ≤ 24 := by
  obtain ⟨nm, x, e, rfl, e5, sg, pl⟩ := h
  exact ⟨nm, x, rfl, sg.up5 e5, by rw [parts_up sg e5]; exact pl⟩
/-! ### the lines -/
def kRule : List Nat := [114, 117, 108, 101, 32]
def kTon : List Nat := [116, 111, 110, 103, 117, 101, 32]
def wrR : D → List Nat
  | .tup [.str _, x] => wrD 5 x
  | _ => []
def lnR (r : D) : List Nat := kRule ++ nmD r ++ [32] ++ wrR r
def ln0 (t : List Nat) : List Nat := kTon ++ qq t
def linesB (t : List Nat) (rs : List D) : List (List Nat) := ln0 t :: rs.map lnR
def bwT (t : List Nat) (rs : List D) : List Nat := ((linesB t rs).map (· ++ [10])).flatten
theorem qq_len (s : List Nat) : (qq s).length ≤ 2 * s.length + 2 := by
  have := qt_len s
  unfold qq
  simp only [List.length_cons, List.length_append, List.length_nil]
  omega
theorem wrR_len {t : List Nat} {r : D} (h : RuleOk t r) : (wrR r).length ≤ 480 := by
  obtain ⟨nm, x, rfl, sg, pl⟩ := h.five
  have := wr_len sg
  show (wrD 5 x).length ≤ 480
  omega
theorem lnR_len {t : List Nat} {r : D} (h : RuleOk t r) (hn : NmH (nmD r)) : (lnR r).length ≤ 500 := by
  have := wrR_len h
  have := hn.2.1
  unfold lnR kRule
  simp only [List.length_append, List.length_cons, List.length_nil]
  omega
theorem ln0_len {t : List Nat} (tg : Tgn t) : (ln0 t).length ≤ 30 := by
  have := qq_len t
  have := tg.l2
  unfold ln0 kTon
  simp only [List.length_append, List.length_cons, List.length_nil]
  omega
theorem lines_len {t : List Nat} (tg : Tgn t) {rs : List D} (hr : RulesH t rs) : ∀ l ∈ linesB t rs, l.length ≤ 500 := by
  intro l hl
  rcases List.mem_cons.mp hl with rfl | hl
  · have := ln0_len tg
    omega
  · obtain ⟨r, hr', rfl⟩ := List.mem_map.mp hl
    exact lnR_len (hr.ok r hr') (hr.nm _ (List.mem_map_of_mem hr'))
theorem lines_sum : ∀ {L : List (List Nat)}, (∀ l ∈ L, l.length ≤ 500) → ((L.map (· ++ [10])).map List.length).sum ≤ 501 * L.length
  | [], _ => by simp
  | a :: L, h => by
    have h1 := h a List.mem_cons_self
    have h2 := lines_sum fun l hl => h l (List.mem_cons_of_mem _ hl)
    rw [List.map_cons, List.map_cons, List.sum_cons, List.length_append, List.length_singleton, List.length_cons]
    omega
theorem bwT_len {t : List Nat} (tg : Tgn t) {rs : List D} (hr : RulesH t rs) (l6 : rs.length ≤ 6) : (bwT t rs).length ≤ 4000 := by
  have := lines_sum (lines_len tg hr)
  unfold bwT
  rw [List.length_flatten]
  have e : (linesB t rs).length = rs.length + 1 := by unfold linesB; simp
  rw [e] at this
  omega
/-! ### book_text -/
theorem btx_loop {t : List Nat} {h : IH} {e0 : Option D} : ∀ (rs : List D) (acc : List (List Nat)) (x2 x3 : Option D), acc.length + rs.length ≤ 100 → (∀ r ∈ rs, RuleOk t r ∧ NmH (nmD r)) →
    ∃ y2 y3, forL (gSets [2, 3]) b_book_text_1 rs [e0, some (.ref h.length), x2, x3, none] (h ++ [.lst (acc.map D.str)]) = .nx [e0, some (.ref h.length), y2, y3, none] (h ++ [.lst ((acc ++ rs.map lnR).map D.str)])
  | [], acc, x2, x3, _, _ => ⟨x2, x3, by simp [forL]⟩
  | r :: rs, acc, x2, x3, hl, hr => by
    rw [List.length_cons] at hl
    obtain ⟨ok, hn⟩ := hr r List.mem_cons_self
    have wl := wrR_len ok
    obtain ⟨nm, x, rfl, sg, pl⟩ := ok.five
    have wl : (wrD 5 x).length ≤ 480 := wl
    have nl : nm.length ≤ 8 := hn.2.1
    obtain ⟨y2, y3, ih⟩ := btx_loop (t := t) (h := h) (e0 := e0) rs (acc ++ [lnR (.tup [.str nm, x])]) (some (.str nm)) (some x) (by rw [List.length_append, List.length_singleton]; omega) (fun r h => hr r (List.mem_cons_of_mem _ h))
    refine ⟨y2, y3, ?_⟩
    rw [forL_cons (e1 := [e0, some (.ref h.length), some (.str nm), some x, none]) rfl]
    have rl : (h ++ [Cell.lst (acc.map D.str)])[h.length]? = some (.lst (acc.map D.str)) := by simp
    have ty := tyD_ref rl
    have ap := append_at (y := .str (lnR (.tup [.str nm, x]))) rl (by rw [List.length_map]; omega)
    rw [set_app0] at ap
    have em : acc.map D.str ++ [D.str (lnR (.tup [.str nm, x]))] = (acc ++ [lnR (.tup [.str nm, x])]).map D.str := by simp
    rw [em] at ap
    have wc := sx_call 5 24 (by omega) x sg (by omega) (h ++ [Cell.lst (acc.map D.str)])
    have a1 : ∀ h : IH, dAdd (.str [114, 117, 108, 101, 32]) (.str nm) h = .ok (.str (kRule ++ nm)) h := fun h => dAdd_str (by simp; omega)
    have a2 : ∀ h : IH, dAdd (.str (kRule ++ nm)) (.str [32]) h = .ok (.str (kRule ++ nm ++ [32])) h := fun h => dAdd_str (by simp [kRule]; omega)
    have a3 : ∀ h : IH, dAdd (.str (kRule ++ nm ++ [32])) (.str (wrD 5 x)) h = .ok (.str (lnR (.tup [.str nm, x]))) h := fun h => dAdd_str (by simp [kRule]; omega)
    have e : b_book_text_1 [e0, some (.ref h.length), some (.str nm), some x, none] (h ++ [.lst (acc.map D.str)]) = .nx [e0, some (.ref h.length), some (.str nm), some x, none] (h ++ [.lst ((acc ++ [lnR (.tup [.str nm, x])]).map D.str)]) := by
      clear ih em rl
      generalize lnR (.tup [.str nm, x]) = LL at *
      generalize kRule ++ nm ++ [32] = K2 at *
      generalize kRule ++ nm = K1 at *
      generalize wrD 5 x = WW at *
      generalize acc.map D.str = AA at *
      generalize (acc ++ [LL]).map D.str = BB at *
      generalize h ++ [Cell.lst AA] = H1 at *
      unfold b_book_text_1
      simp [ty, a1, a2, wc, a3, ap]
    rw [e, on_nx, ih]
    simp
theorem book_text_call {t : List Nat} (tg : Tgn t) {rs : List D} (hr : RulesH t rs) (l6 : rs.length ≤ 6) (h : IH) : callC 1 m_book_text [.tup [.str t, .tup rs]] h = .ok (.str (bwT t rs)) h := by
  have l2 := tg.l2
  have i0 := fun h => t0 h (l := [.str t, .tup rs]) rfl
  have i1 := fun h => t1 h (l := [.str t, .tup rs]) rfl
  have qc := quoted_call (s := t) (by omega) h
  have ql := qq_len t
  obtain ⟨y2, y3, lp⟩ := btx_loop (t := t) (h := h) (e0 := some (.tup [.str t, .tup rs])) rs [ln0 t] none none (by simp; omega) (fun r hm => ⟨hr.ok r hm, hr.nm _ (List.mem_map_of_mem hm)⟩)
  have eL : [ln0 t] ++ rs.map lnR = linesB t rs := rfl
  rw [eL] at lp
  have ll := lines_len tg hr
  have lz : (linesB t rs).length ≤ 7 := by unfold linesB; simp; omega
  have rl : (h ++ [Cell.lst ((linesB t rs).map D.str)])[h.length]? = some (.lst ((linesB t rs).map D.str)) := by simp
  have comp := lcF_mapS (h := h ++ [Cell.lst ((linesB t rs).map D.str)]) (env := [some (.tup [.str t, .tup rs]), some (.ref h.length), y2, y3, none]) (it := iSeq (mVar 1)) (gg := gSet 4) (m := e_book_text_2) (ws := [4]) (src := .ls h.length) (ds := (linesB t rs).map D.str) (fun d => match d with | .str s => .str (s ++ [10]) | d => d) (iSeq_ls (by simp) rl) (fun x => (src_ls (get_old rl)).1) (fun x i => (src_ls (get_old rl)).2.1 i) (src_ls rl).2.2 (by rw [List.length_map]; omega) (fun d hd => by
      obtain ⟨s, _, rfl⟩ := List.mem_map.mp hd
      rfl) (fun d hd => by
      obtain ⟨s, hs, rfl⟩ := List.mem_map.mp hd
      have := ll s hs
      have a1 : ∀ h : IH, dAdd (.str s) (.str [10]) h = .ok (.str (s ++ [10])) h := fun h => dAdd_str (by simp; omega)
      refine ⟨_, rfl, fun y => ?_⟩
      generalize h ++ [Cell.lst ((linesB t rs).map D.str)] ++ [y] = H1 at *
      unfold e_book_text_2
      simp [wipeE, a1])
  have em : ((linesB t rs).map D.str).map (fun d => match d with | .str s => D.str (s ++ [10]) | d => d) = ((linesB t rs).map (· ++ [10])).map D.str := by
    rw [List.map_map, List.map_map]
    rfl
  rw [em] at comp
  have ls := lines_sum ll
  have jn := join_all (a := []) (ys := (linesB t rs).map (· ++ [10])) (h := h ++ [Cell.lst ((linesB t rs).map D.str)]) (by rw [List.length_nil]; omega)
  rw [joinN_nil] at jn
  have jn : fJoin (.str []) [.fl (((linesB t rs).map (· ++ [10])).map D.str)] (h ++ [Cell.lst ((linesB t rs).map D.str)]) = .ok (.str (bwT t rs)) (h ++ [Cell.lst ((linesB t rs).map D.str)]) := jn
  have a0 : ∀ h : IH, dAdd (.str [116, 111, 110, 103, 117, 101, 32]) (.str (qq t)) h = .ok (.str (ln0 t)) h := fun h => dAdd_str (by simp; omega)
  refine callC_pure (g := [.lst ((linesB t rs).map D.str)]) rfl ?_ rfl
  have i0' := i0 (h ++ [])
  unfold m_book_text
  rw [ap_fnM]
  simp only [List.map_cons, List.map_nil, List.length_cons, List.length_nil, List.cons_append, List.nil_append, Nat.reduceAdd, Nat.reduceSub, List.replicate]
  refine stN (env2 := [some (.tup [.str t, .tup rs]), some (.ref h.length), none, none, none]) (h2 := h ++ [.lst ([ln0 t].map D.str)]) (by
    clear comp lp jn
    generalize ln0 t = L0 at *
    generalize qq t = QQ at *
    have i0'' := i0 h
    simp [i0'', qc, a0, newL]) ?_
  refine stN (env2 := [some (.tup [.str t, .tup rs]), some (.ref h.length), y2, y3, none]) (h2 := h ++ [.lst ((linesB t rs).map D.str)]) ((for_st (ds := rs) (h2 := h ++ [.lst ([ln0 t].map D.str)]) (by
    have i1' := i1 (h ++ [.lst ([ln0 t].map D.str)])
    generalize h ++ [Cell.lst ([ln0 t].map D.str)] = H1 at *
    clear comp lp jn
    simp [i1'])).trans lp) ?_
  clear lp rl
  generalize mFz (mLc (iSeq (mVar 1)) (gSet 4) mYes e_book_text_2 [4]) = CC at *
  generalize ((linesB t rs).map (· ++ [10])).map D.str = YY at *
  generalize h ++ [Cell.lst ((linesB t rs).map D.str)] = H1 at *
  simp [comp, jn]
/-! ### _law_book_written -/
theorem lbw_loop {t : List Nat} {h : IH} {e0 : Option D} : ∀ (rs : List D) (acc : List (List Nat)) (x2 x3 : Option D), acc.length + rs.length ≤ 100 → (∀ r ∈ rs, RuleOk t r ∧ NmH (nmD r)) →
    ∃ y2 y3, forL (gSets [2, 3]) b__law_book_written_1 rs [e0, some (.ref h.length), x2, x3, none] (h ++ [.lst (acc.map D.str)]) = .nx [e0, some (.ref h.length), y2, y3, none] (h ++ [.lst ((acc ++ rs.map lnR).map D.str)])
  | [], acc, x2, x3, _, _ => ⟨x2, x3, by simp [forL]⟩
  | r :: rs, acc, x2, x3, hl, hr => by
    rw [List.length_cons] at hl
    obtain ⟨ok, hn⟩ := hr r List.mem_cons_self
    have wl := wrR_len ok
    obtain ⟨nm, x, rfl, sg, pl⟩ := ok.five
    have wl : (wrD 5 x).length ≤ 480 := wl
    have nl : nm.length ≤ 8 := hn.2.1
    obtain ⟨y2, y3, ih⟩ := lbw_loop (t := t) (h := h) (e0 := e0) rs (acc ++ [lnR (.tup [.str nm, x])]) (some (.str nm)) (some x) (by rw [List.length_append, List.length_singleton]; omega) (fun r h => hr r (List.mem_cons_of_mem _ h))
    refine ⟨y2, y3, ?_⟩
    rw [forL_cons (e1 := [e0, some (.ref h.length), some (.str nm), some x, none]) rfl]
    have rl : (h ++ [Cell.lst (acc.map D.str)])[h.length]? = some (.lst (acc.map D.str)) := by simp
    have ty := tyD_ref rl
    have ap := append_at (y := .str (lnR (.tup [.str nm, x]))) rl (by rw [List.length_map]; omega)
    rw [set_app0] at ap
    have em : acc.map D.str ++ [D.str (lnR (.tup [.str nm, x]))] = (acc ++ [lnR (.tup [.str nm, x])]).map D.str := by simp
    rw [em] at ap
    have wc := lw_call 5 24 (by omega) x sg (by omega) (h ++ [Cell.lst (acc.map D.str)])
    have a1 : ∀ h : IH, dAdd (.str [114, 117, 108, 101, 32]) (.str nm) h = .ok (.str (kRule ++ nm)) h := fun h => dAdd_str (by simp; omega)
    have a2 : ∀ h : IH, dAdd (.str (kRule ++ nm)) (.str [32]) h = .ok (.str (kRule ++ nm ++ [32])) h := fun h => dAdd_str (by simp [kRule]; omega)
    have a3 : ∀ h : IH, dAdd (.str (kRule ++ nm ++ [32])) (.str (wrD 5 x)) h = .ok (.str (lnR (.tup [.str nm, x]))) h := fun h => dAdd_str (by simp [kRule]; omega)
    have e : b__law_book_written_1 [e0, some (.ref h.length), some (.str nm), some x, none] (h ++ [.lst (acc.map D.str)]) = .nx [e0, some (.ref h.length), some (.str nm), some x, none] (h ++ [.lst ((acc ++ [lnR (.tup [.str nm, x])]).map D.str)]) := by
      clear ih em rl
      generalize lnR (.tup [.str nm, x]) = LL at *
      generalize kRule ++ nm ++ [32] = K2 at *
      generalize kRule ++ nm = K1 at *
      generalize wrD 5 x = WW at *
      generalize acc.map D.str = AA at *
      generalize (acc ++ [LL]).map D.str = BB at *
      generalize h ++ [Cell.lst AA] = H1 at *
      unfold b__law_book_written_1
      simp [ty, a1, a2, wc, a3, ap]
    rw [e, on_nx, ih]
    simp
theorem law_book_written_call {t : List Nat} (tg : Tgn t) {rs : List D} (hr : RulesH t rs) (l6 : rs.length ≤ 6) (h : IH) : callC 1 m__law_book_written [.tup [.str t, .tup rs]] h = .ok (.str (bwT t rs)) h := by
  have l2 := tg.l2
  have i0 := fun h => t0 h (l := [.str t, .tup rs]) rfl
  have i1 := fun h => t1 h (l := [.str t, .tup rs]) rfl
  have qc := law_quote_call (s := t) (by omega) h
  have ql := qq_len t
  obtain ⟨y2, y3, lp⟩ := lbw_loop (t := t) (h := h) (e0 := some (.tup [.str t, .tup rs])) rs [ln0 t] none none (by simp; omega) (fun r hm => ⟨hr.ok r hm, hr.nm _ (List.mem_map_of_mem hm)⟩)
  have eL : [ln0 t] ++ rs.map lnR = linesB t rs := rfl
  rw [eL] at lp
  have ll := lines_len tg hr
  have lz : (linesB t rs).length ≤ 7 := by unfold linesB; simp; omega
  have rl : (h ++ [Cell.lst ((linesB t rs).map D.str)])[h.length]? = some (.lst ((linesB t rs).map D.str)) := by simp
  have comp := lcF_mapS (h := h ++ [Cell.lst ((linesB t rs).map D.str)]) (env := [some (.tup [.str t, .tup rs]), some (.ref h.length), y2, y3, none]) (it := iSeq (mVar 1)) (gg := gSet 4) (m := e__law_book_written_2) (ws := [4]) (src := .ls h.length) (ds := (linesB t rs).map D.str) (fun d => match d with | .str s => .str (s ++ [10]) | d => d) (iSeq_ls (by simp) rl) (fun x => (src_ls (get_old rl)).1) (fun x i => (src_ls (get_old rl)).2.1 i) (src_ls rl).2.2 (by rw [List.length_map]; omega) (fun d hd => by
      obtain ⟨s, _, rfl⟩ := List.mem_map.mp hd
      rfl) (fun d hd => by
      obtain ⟨s, hs, rfl⟩ := List.mem_map.mp hd
      have := ll s hs
      have a1 : ∀ h : IH, dAdd (.str s) (.str [10]) h = .ok (.str (s ++ [10])) h := fun h => dAdd_str (by simp; omega)
      refine ⟨_, rfl, fun y => ?_⟩
      generalize h ++ [Cell.lst ((linesB t rs).map D.str)] ++ [y] = H1 at *
      unfold e__law_book_written_2
      simp [wipeE, a1])
  have em : ((linesB t rs).map D.str).map (fun d => match d with | .str s => D.str (s ++ [10]) | d => d) = ((linesB t rs).map (· ++ [10])).map D.str := by
    rw [List.map_map, List.map_map]
    rfl
  rw [em] at comp
  have ls := lines_sum ll
  have jn := join_all (a := []) (ys := (linesB t rs).map (· ++ [10])) (h := h ++ [Cell.lst ((linesB t rs).map D.str)]) (by rw [List.length_nil]; omega)
  rw [joinN_nil] at jn
  have jn : fJoin (.str []) [.fl (((linesB t rs).map (· ++ [10])).map D.str)] (h ++ [Cell.lst ((linesB t rs).map D.str)]) = .ok (.str (bwT t rs)) (h ++ [Cell.lst ((linesB t rs).map D.str)]) := jn
  have a0 : ∀ h : IH, dAdd (.str [116, 111, 110, 103, 117, 101, 32]) (.str (qq t)) h = .ok (.str (ln0 t)) h := fun h => dAdd_str (by simp; omega)
  refine callC_pure (g := [.lst ((linesB t rs).map D.str)]) rfl ?_ rfl
  have i0' := i0 (h ++ [])
  unfold m__law_book_written
  rw [ap_fnM]
  simp only [List.map_cons, List.map_nil, List.length_cons, List.length_nil, List.cons_append, List.nil_append, Nat.reduceAdd, Nat.reduceSub, List.replicate]
  refine stN (env2 := [some (.tup [.str t, .tup rs]), some (.ref h.length), none, none, none]) (h2 := h ++ [.lst ([ln0 t].map D.str)]) (by
    clear comp lp jn
    generalize ln0 t = L0 at *
    generalize qq t = QQ at *
    have i0'' := i0 h
    simp [i0'', qc, a0, newL]) ?_
  refine stN (env2 := [some (.tup [.str t, .tup rs]), some (.ref h.length), y2, y3, none]) (h2 := h ++ [.lst ((linesB t rs).map D.str)]) ((for_st (ds := rs) (h2 := h ++ [.lst ([ln0 t].map D.str)]) (by
    have i1' := i1 (h ++ [.lst ([ln0 t].map D.str)])
    generalize h ++ [Cell.lst ([ln0 t].map D.str)] = H1 at *
    clear comp lp jn
    simp [i1'])).trans lp) ?_
  clear lp rl
  generalize mFz (mLc (iSeq (mVar 1)) (gSet 4) mYes e__law_book_written_2 [4]) = CC at *
  generalize ((linesB t rs).map (· ++ [10])).map D.str = YY at *
  generalize h ++ [Cell.lst ((linesB t rs).map D.str)] = H1 at *
  simp [comp, jn]
end NR

set_option Elab.async false
set_option linter.all false
set_option maxRecDepth 100000
set_option maxHeartbeats 4000000
/-! What a line of a book writes: the tongue, a rule. -/
namespace NR
open PySem PySem.Spec PyProof.Rows L2
theorem is_nameB_call {n : List Nat} (hn : NmH n) (h : IH) : callC 1 m_is_name_booktexts [.str n] h = .ok (.bl true) h := by
  obtain ⟨l1, l8, sub⟩ := hn
  have comp := lcF_map (it := iSeq (mVar 0)) (ws := [1]) (gg := gSet 1) (m := e_is_name_booktexts_1) (ds := sgD n) (h := h) (env := [some (.str n), none]) (fun d => match d with | .str [x] => .bl (decide (x ∈ lettersH)) | d => d) (iSeq_str rfl (by omega)) (by simp [sgD]; omega) (fun d hd => by
    obtain ⟨x, _, rfl⟩ := List.mem_map.mp hd
    rfl) (fun d hd => by
    obtain ⟨x, _, rfl⟩ := List.mem_map.mp hd
    refine ⟨_, rfl, fun w => ?_⟩
    have di : dIn false (.str [x]) c_LETTERS_booktexts (h ++ [w]) = .ok (.bl (decide (x ∈ lettersH))) (h ++ [w]) := dIn_sign
    unfold e_is_name_booktexts_1
    generalize c_LETTERS_booktexts = CL at *
    simp [wipeE, gSet, di])
  have e : (sgD n).map (fun d => match d with | .str [x] => D.bl (decide (x ∈ lettersH)) | d => d) = (n.map fun x => decide (x ∈ lettersH)).map D.bl := by
    unfold sgD
    rw [List.map_map, List.map_map]
    rfl
  rw [e] at comp
  have al : (n.map fun x => decide (x ∈ lettersH)).all id = true := by
    rw [List.all_eq_true]
    intro b hb
    obtain ⟨x, hx, rfl⟩ := List.mem_map.mp hb
    exact decide_eq_true (sub x hx)
  have ba : bAll [.fl ((n.map fun x => decide (x ∈ lettersH)).map D.bl)] h = .ok (.bl true) h := by rw [bAll_fl, al]
  generalize (n.map fun x => decide (x ∈ lettersH)).map D.bl = BB at *
  have bl : bLen [.str n] h = .ok (.int (n.length : Nat)) h := bLen_str (by omega)
  have q1 : (1 : Int) ≤ (n.length : Nat) := by omega
  have q2 : ((n.length : Nat) : Int) ≤ 8 := by omega
  have q1' : 1 ≤ n.length := l1
  refine callC_same rfl ?_
  unfold m_is_name_booktexts
  generalize mFz (mLc (iSeq (mVar 0)) (gSet 1) mYes e_is_name_booktexts_1 [1]) = CC at *
  simp [bl, q1, q2, q1', l8, comp, ba]
/-! ### the signs of a shape -/
theorem sg_inner {t : List Nat} {d : Nat} {x : D} (s : Sg t (d + 1) x) : ∀ y ∈ innerD x, Sg t d y := by
  cases s with
  | one => rw [innerD_one]; simp
  | row n h => rw [innerD_row]; exact h
  | eit n n1 h => rw [innerD_eit]; exact h
  | many h => rw [innerD_many]; simpa using h
  | times h => rw [innerD_times]; simpa using h
theorem parts_sg {t : List Nat} : ∀ {d : Nat} {x : D}, Sg t d x → ∀ y ∈ partsD d x, ∃ e, Sg t e y
  | 0, _, s, _, _ => by cases s
  | d + 1, x, s, y, hy => by
    have : partsD (d + 1) x = x :: ((innerD x).map (partsD d)).flatten := rfl
    rw [this] at hy
    rcases List.mem_cons.mp hy with rfl | hy
    · exact ⟨d + 1, s⟩
    · obtain ⟨l, hl, hy⟩ := List.mem_flatten.mp hy
      obtain ⟨z, hz, rfl⟩ := List.mem_map.mp hl
      exact parts_sg (sg_inner s z hz) y hy
def isO : D → Bool
  | .tup (.str k :: _) => decide (k = kOne)
  | _ => false
def sgO : D → D
  | .tup [_, s] => s
  | d => d
theorem ones_of {t : List Nat} : ∀ {l : List D}, (∀ y ∈ l, ∃ e, Sg t e y) → ∃ SS : List (List Nat), (l.filter isO).map sgO = SS.map D.str ∧ (∀ s ∈ SS, s.length ≤ 6 ∧ ∀ c ∈ s, c ∈ t) ∧ SS.length ≤ l.length
  | [], _ => ⟨[], rfl, by simp, by simp⟩
  | y :: l, h => by
    obtain ⟨SS, e, p, n⟩ := ones_of fun z hz => h z (List.mem_cons_of_mem _ hz)
    obtain ⟨k, sy⟩ := h y List.mem_cons_self
    have no : isO y = false → ∃ SS : List (List Nat), ((y :: l).filter isO).map sgO = SS.map D.str ∧ (∀ s ∈ SS, s.length ≤ 6 ∧ ∀ c ∈ s, c ∈ t) ∧ SS.length ≤ (y :: l).length := fun q => ⟨SS, by rw [List.filter_cons_of_neg (by rw [q]; simp)]; exact e, p, by rw [List.length_cons]; omega⟩
    cases sy with
    | @one _ s n1 n6 nd sub =>
      refine ⟨s :: SS, ?_, fun z hz => ?_, by simp; omega⟩
      · rw [List.filter_cons_of_pos (by simp [isO]), List.map_cons, e]
        rfl
      · rcases List.mem_cons.mp hz with rfl | hz
        · exact ⟨n6, sub⟩
        · exact p z hz
    | row => exact no (by simp [isO])
    | eit => exact no (by simp [isO])
    | many => exact no (by simp [isO])
    | times => exact no (by simp [isO])
theorem flat_short : ∀ {SS : List (List Nat)}, (∀ s ∈ SS, s.length ≤ 6) → (SS.map List.length).sum ≤ 6 * SS.length
  | [], _ => by simp
  | a :: SS, h => by
    have h1 := h a List.mem_cons_self
    have h2 := flat_short fun l hl => h l (List.mem_cons_of_mem _ hl)
    rw [List.map_cons, List.sum_cons, List.length_cons]
    omega
theorem signs_in_call {t : List Nat} {x : D} (sg : Sg t 5 x) (pl : (partsD 5 x).length ≤ 24) (h : IH) : ∃ w, callC 1 m_signs_in [x] h = .ok (.str w) h ∧ w.length ≤ 200 ∧ ∀ c ∈ w, c ∈ t := by
  have pc := parts_call 5 24 x sg.sh (by omega) (by omega) h
  have ps := parts_sg sg
  obtain ⟨SS, e, p, n⟩ := ones_of ps
  have comp := lcF_filter (it := iSeq (mCall 1 (m_parts_of 24) (mCons (mVar 0) mNil))) (ws := [1]) (gg := gSet 1) (t := t_signs_in_1) (m := e_signs_in_2) (ds := partsD 5 x) (h := h) (env := [some x, none]) sgO isO (by simp [pc]) (by omega) (fun d hd hp => by
    obtain ⟨k, sy⟩ := ps d hd
    cases sy with
    | one => rfl
    | row => simp [isO] at hp
    | eit => simp [isO] at hp
    | many => simp [isO] at hp
    | times => simp [isO] at hp) (fun d hd => by
    refine ⟨[some x, some d], rfl, fun w => ?_, fun w hp => ?_⟩
    · obtain ⟨k, sy⟩ := ps d hd
      unfold t_signs_in_1
      cases sy with
      | @one _ s n1 n6 nd sub =>
        have i0 := t0 (h ++ [w]) (l := [.str kOne, .str s]) rfl
        simp [i0, isO, lOne]
      | @row _ l n6 hl =>
        have i0 := t0 (h ++ [w]) (l := [.str kRow, .tup l]) rfl
        simp [i0, isO, lOne]
      | @eit _ l n6 n1 hl =>
        have i0 := t0 (h ++ [w]) (l := [.str kEit, .tup l]) rfl
        simp [i0, isO, lOne]
      | @many _ p hp =>
        have i0 := t0 (h ++ [w]) (l := [.str kMany, p]) rfl
        simp [i0, isO, lOne]
      | @times _ p lo hi hp l0 lh h4 =>
        have i0 := t0 (h ++ [w]) (l := [.str kTim, p, .int lo, .int hi]) rfl
        simp [i0, isO, lOne]
    · obtain ⟨k, sy⟩ := ps d hd
      unfold e_signs_in_2
      cases sy with
      | @one _ s n1 n6 nd sub =>
        have i1 := t1 (h ++ [w]) (l := [.str kOne, .str s]) rfl
        simp [i1, sgO]
      | row => simp [isO] at hp
      | eit => simp [isO] at hp
      | many => simp [isO] at hp
      | times => simp [isO] at hp)
  rw [e] at comp
  have fs := flat_short fun s hs => (p s hs).1
  have jn := join_all (a := []) (ys := SS) (h := h) (by rw [List.length_nil]; omega)
  rw [joinN_nil] at jn
  refine ⟨SS.flatten, callC_same rfl ?_, by rw [List.length_flatten]; omega, fun c hc => by
    obtain ⟨s, hs, hc⟩ := List.mem_flatten.mp hc
    exact (p s hs).2 c hc⟩
  unfold m_signs_in
  generalize mFz (mLc (iSeq (mCall 1 (m_parts_of 24) (mCons (mVar 0) mNil))) (gSet 1) t_signs_in_1 e_signs_in_2 [1]) = CC at *
  generalize SS.map D.str = YY at *
  simp [comp, jn]
/-! ### parts of a text -/
theorem fnd_app {c : Nat} {a b : List Nat} (hc : c ∉ a) : fnd c (a ++ c :: b) = some a.length := by
  rw [fnd_some]
  refine ⟨by simp, fun k hk => ?_⟩
  rw [List.getElem?_append_left hk]
  intro z
  exact hc (List.mem_of_getElem? z)
theorem part_app {c : Nat} {a b : List Nat} (hc : c ∉ a) (l : a.length + b.length ≤ 1000000) (h : IH) : fPartition (.str (a ++ c :: b)) [.str [c]] h = .ok (.tup [.str a, .str [c], .str b]) h := by
  unfold fPartition
  dsimp only
  rw [if_pos (by rw [List.length_append, List.length_cons]; omega), fnd_app hc]
  dsimp only
  have e1 : (a ++ c :: b).take a.length = a := List.take_left ..
  have e2 : (a ++ c :: b).drop (a.length + 1) = b := by
    rw [show a ++ c :: b = (a ++ [c]) ++ b by simp]
    exact List.drop_left' (by simp)
  rw [e1, e2]
theorem unquoted_call {s : List Nat} (sl : s.length ≤ 1000) (h : IH) : callC 1 m_unquoted [.str (qq s)] h = .ok (.str s) h := by
  have ql := qq_len s
  have qc := quote_at_call (s := qq s) (f := s) (post := []) (p := 0) (by omega) (by simp) h
  rw [Nat.zero_add] at qc
  have qc : callC 2 m_quote_at [.str (qq s), .int 0] h = .ok (.tup [.str s, .int ((qq s).length : Nat)]) h := qc
  have bl : bLen [.str (qq s)] h = .ok (.int ((qq s).length : Nat)) h := bLen_str (by omega)
  refine callC_same rfl ?_
  unfold m_unquoted
  generalize ((qq s).length : Nat) = L at *
  generalize qq s = Q at *
  simp [qc, bl, gSets]
theorem tongue_in_call {t : List Nat} (tg : Tgn t) (h : IH) : callC 1 m_tongue_in [.str (ln0 t)] h = .ok (.str t) h := by
  have l2 := tg.l2
  have ll := ln0_len tg
  have st : fStarts (.str (ln0 t)) [.str [116, 111, 110, 103, 117, 101, 32]] h = .ok (.bl true) h := by
    show R.ok (D.bl (kTon.isPrefixOf (kTon ++ qq t))) h = _
    rw [List.isPrefixOf_iff_prefix.mpr (List.prefix_append ..)]
  have sl : sliceD (.str (ln0 t)) (some 7) none h = .ok (.str (qq t)) h := by
    rw [sliceD_str (by omega), cutN_from (by omega)]
    rfl
  have uc := unquoted_call (s := t) (by omega) h
  have tc := is_tongue_call tg h
  have body : b_tongue_in_1 [some (.str (ln0 t)), none] h = .nx [some (.str (ln0 t)), some (.str t)] h := by
    unfold b_tongue_in_1
    generalize ln0 t = L0 at *
    generalize qq t = Q at *
    simp [sl, uc]
  have tr : msTry hT "NoQuote" b_tongue_in_1 s_tongue_in_2 [some (.str (ln0 t)), none] h = .nx [some (.str (ln0 t)), some (.str t)] h := by
    unfold msTry
    rw [body]
  refine callC_same rfl ?_
  unfold m_tongue_in
  rw [ap_fnM]
  simp only [List.map_cons, List.map_nil, List.length_cons, List.length_nil, List.cons_append, List.nil_append, Nat.reduceAdd, Nat.reduceSub, List.replicate]
  clear body sl
  generalize ln0 t = L0 at *
  refine stN (env2 := [some (.str L0), none]) (h2 := h) (by simp [st]) ?_
  refine stN (env2 := [some (.str L0), some (.str t)]) (h2 := h) tr ?_
  simp [tc]
/-! ### a rule -/
theorem ri_loop {t : List Nat} {h : IH} {a0 a2 a3 a4 a5 a6 a7 a8 a9 : Option D} : ∀ (w : List Nat) (x : Option D), (∀ c ∈ w, c ∈ t) → ∃ x', forL (gSet 10) b_rule_in_3 (sgD w) [a0, some (.str t), a2, a3, a4, a5, a6, a7, a8, a9, x] h = .nx [a0, some (.str t), a2, a3, a4, a5, a6, a7, a8, a9, x'] h
  | [], x, _ => ⟨x, rfl⟩
  | c :: w, x, hw => by
    obtain ⟨x', e⟩ := ri_loop (t := t) (h := h) (a0 := a0) (a2 := a2) (a3 := a3) (a4 := a4) (a5 := a5) (a6 := a6) (a7 := a7) (a8 := a8) (a9 := a9) w (some (.str [c])) fun d hd => hw d (List.mem_cons_of_mem _ hd)
    refine ⟨x', ?_⟩
    have hc := hw c List.mem_cons_self
    rw [show sgD (c :: w) = .str [c] :: sgD w from rfl, forL_cons (e1 := [a0, some (.str t), a2, a3, a4, a5, a6, a7, a8, a9, some (.str [c])]) rfl]
    have e3 : b_rule_in_3 [a0, some (.str t), a2, a3, a4, a5, a6, a7, a8, a9, some (.str [c])] h = .nx [a0, some (.str t), a2, a3, a4, a5, a6, a7, a8, a9, some (.str [c])] h := by
      unfold b_rule_in_3
      simp [hc]
    rw [e3, on_nx]
    exact e
theorem rule_in_call {t : List Nat} (tg : Tgn t) {r : D} (ok : RuleOk t r) (hn : NmH (nmD r)) {ns : List (List Nat)} (nm5 : ns.length ≤ 5) (nn : nmD r ∉ ns) (h : IH) : callC 3 m_rule_in [.str (lnR r), .str t, .fl (ns.map D.str)] h = .ok r h := by
  obtain ⟨nm, x, rfl, sg, pl⟩ := ok.five
  have hn : NmH nm := hn
  have nn : nm ∉ ns := nn
  have nl := hn.2.1
  have wl := wr_len sg
  have n32 : 32 ∉ nm := fun z => by
    have := hn.2.2 32 z
    revert this
    decide
  have p1 := part_app (c := 32) (a := [114, 117, 108, 101]) (b := nm ++ 32 :: wrD 5 x) (by decide) (by simp; omega) h
  have e1 : lnR (.tup [.str nm, x]) = [114, 117, 108, 101] ++ 32 :: (nm ++ 32 :: wrD 5 x) := by
    show kRule ++ nm ++ [32] ++ wrD 5 x = _
    simp [kRule]
  rw [← e1] at p1
  have p2 := part_app (c := 32) (a := nm) (b := wrD 5 x) n32 (by omega) h
  have ic := is_nameB_call hn h
  have dn := in_namesF (ns := ns) (neg := false) (H := h) nm
  rw [decide_eq_false nn] at dn
  have dn : dIn false (.str nm) (.fl (ns.map D.str)) h = .ok (.bl false) h := dn
  have bl : bLen [.fl (ns.map D.str)] h = .ok (.int (ns.length : Nat)) h := by rw [bLen_fl, List.length_map]
  have q6 : ¬ ((ns.length : Nat) : Int) = 6 := by omega
  have q6' : ¬ ns.length = 6 := by omega
  have rc := read_call tg.sub sg (by omega) pl h
  obtain ⟨w, sc, swl, sw⟩ := signs_in_call sg pl h
  obtain ⟨x', lp⟩ := ri_loop (t := t) (h := h) (a0 := some (.str (lnR (.tup [.str nm, x])))) (a2 := some (.fl (ns.map D.str))) (a3 := some (.str [114, 117, 108, 101])) (a4 := some (.str [32])) (a5 := some (.str (nm ++ 32 :: wrD 5 x))) (a6 := some (.str nm)) (a7 := some (.str [32])) (a8 := some (.str (wrD 5 x))) (a9 := some x) w none sw
  refine callC_same rfl ?_
  unfold m_rule_in
  rw [ap_fnM]
  simp only [List.map_cons, List.map_nil, List.length_cons, List.length_nil, List.cons_append, List.nil_append, Nat.reduceAdd, Nat.reduceSub, List.replicate]
  clear e1
  generalize lnR (.tup [.str nm, x]) = LN at *
  generalize nm ++ 32 :: wrD 5 x = R0 at *
  generalize wrD 5 x = WW at *
  generalize ns.map D.str = NS at *
  refine stN (env2 := [some (.str LN), some (.str t), some (.fl NS), some (.str [114, 117, 108, 101]), some (.str [32]), some (.str R0), none, none, none, none, none]) (h2 := h) (by clear lp; simp [p1, gSets]) ?_
  refine stN (env2 := [some (.str LN), some (.str t), some (.fl NS), some (.str [114, 117, 108, 101]), some (.str [32]), some (.str R0), some (.str nm), some (.str [32]), some (.str WW), none, none]) (h2 := h) (by clear lp; simp [p2, gSets]) ?_
  refine stN (env2 := [some (.str LN), some (.str t), some (.fl NS), some (.str [114, 117, 108, 101]), some (.str [32]), some (.str R0), some (.str nm), some (.str [32]), some (.str WW), none, none]) (h2 := h) (by clear lp; simp [-bLen_fl, ic, dn, bl, q6, q6']) ?_
  refine stN (env2 := [some (.str LN), some (.str t), some (.fl NS), some (.str [114, 117, 108, 101]), some (.str [32]), some (.str R0), some (.str nm), some (.str [32]), some (.str WW), some x, none]) (h2 := h) (by
    have body : b_rule_in_1 [some (.str LN), some (.str t), some (.fl NS), some (.str [114, 117, 108, 101]), some (.str [32]), some (.str R0), some (.str nm), some (.str [32]), some (.str WW), none, none] h = .nx [some (.str LN), some (.str t), some (.fl NS), some (.str [114, 117, 108, 101]), some (.str [32]), some (.str R0), some (.str nm), some (.str [32]), some (.str WW), some x, none] h := by
      unfold b_rule_in_1
      clear lp
      simp [rc]
    unfold msTry
    rw [body]) ?_
  refine stN (env2 := [some (.str LN), some (.str t), some (.fl NS), some (.str [114, 117, 108, 101]), some (.str [32]), some (.str R0), some (.str nm), some (.str [32]), some (.str WW), some x, x']) (h2 := h) ((for_st (ds := sgD w) (h2 := h) (by
    clear lp
    exact iSeq_str (by simp [sc]) (by omega))).trans lp) ?_
  clear lp
  simp
end NR

set_option Elab.async false
set_option linter.all false
set_option maxRecDepth 100000
set_option maxHeartbeats 4000000
/-! A book read back. -/
namespace NR
open PySem PySem.Spec PyProof.Rows L2
theorem mem_joinN {c : Nat} {a : List Nat} : ∀ {ys : List (List Nat)}, c ∈ joinN a ys → c ∈ a ∨ ∃ y ∈ ys, c ∈ y
  | [], h => by simp [joinN] at h
  | [y], h => .inr ⟨y, List.mem_cons_self, by simpa [joinN] using h⟩
  | y :: z :: ys, h => by
    have h : c ∈ y ++ (a ++ joinN a (z :: ys)) := by simpa [joinN] using h
    rcases List.mem_append.mp h with h | h
    · exact .inr ⟨y, List.mem_cons_self, h⟩
    · rcases List.mem_append.mp h with h | h
      · exact .inl h
      · rcases mem_joinN h with h | ⟨w, hw, h⟩
        · exact .inl h
        · exact .inr ⟨w, List.mem_cons_of_mem _ hw, h⟩
theorem qq_no (s : List Nat) : 10 ∉ qq s := by
  have q1 : ∀ c, 10 ∉ qs1 c := fun c => by
    unfold qs1
    by_cases q : c = 10
    · rw [if_pos q]; decide
    · rw [if_neg q]
      by_cases q2 : c = 62 ∨ c = 92
      · rw [if_pos q2]
        rcases q2 with rfl | rfl <;> decide
      · rw [if_neg q2]
        rw [List.mem_singleton]
        exact fun z => q z.symm
  unfold qq
  intro z
  rcases List.mem_cons.mp z with z | z
  · revert z; decide
  · rcases List.mem_append.mp z with z | z
    · unfold qt at z
      obtain ⟨l, hl, z⟩ := List.mem_flatten.mp z
      obtain ⟨c, _, rfl⟩ := List.mem_map.mp hl
      exact q1 c z
    · revert z; decide
theorem dg_no {i : Int} (h : 0 ≤ i) : 10 ∉ dg i := by
  unfold dg
  rw [List.mem_singleton]
  omega
theorem wr_no {t : List Nat} : ∀ {d : Nat} {x : D}, Sg t d x → 10 ∉ wrD d x
  | 0, _, s => by cases s
  | d + 1, x, sx => by
    cases sx with
    | @one _ s n1 n6 nd sub => rw [wr_one]; exact qq_no s
    | @row _ l n6 hl =>
      rw [wr_row]
      intro z
      rcases List.mem_cons.mp z with z | z
      · revert z; decide
      · rcases List.mem_append.mp z with z | z
        · rcases mem_joinN z with z | ⟨w, hw, z⟩
          · revert z; decide
          · obtain ⟨y, hy, rfl⟩ := List.mem_map.mp hw
            exact wr_no (hl y hy) z
        · revert z; decide
    | @eit _ l n6 n1 hl =>
      rw [wr_eit]
      intro z
      rcases List.mem_cons.mp z with z | z
      · revert z; decide
      · rcases List.mem_append.mp z with z | z
        · rcases mem_joinN z with z | ⟨w, hw, z⟩
          · revert z; decide
          · obtain ⟨y, hy, rfl⟩ := List.mem_map.mp hw
            exact wr_no (hl y hy) z
        · revert z; decide
    | @many _ p hp =>
      rw [wr_many]
      intro z
      rcases List.mem_cons.mp z with z | z
      · revert z; decide
      · exact wr_no hp z
    | @times _ p lo hi hp l0 lh h4 =>
      rw [wr_tim]
      intro z
      rcases List.mem_append.mp z with z | z
      · exact dg_no l0 z
      · rcases List.mem_cons.mp z with z | z
        · revert z; decide
        · rcases List.mem_append.mp z with z | z
          · exact dg_no (by omega) z
          · rcases List.mem_cons.mp z with z | z
            · revert z; decide
            · exact wr_no hp z
theorem lines_no {t : List Nat} {rs : List D} (hr : RulesH t rs) : ∀ l ∈ linesB t rs, 10 ∉ l := by
  intro l hl
  rcases List.mem_cons.mp hl with rfl | hl
  · unfold ln0
    intro z
    rcases List.mem_append.mp z with z | z
    · revert z; decide
    · exact qq_no t z
  · obtain ⟨r, hr', rfl⟩ := List.mem_map.mp hl
    have hn := hr.nm _ (List.mem_map_of_mem hr')
    obtain ⟨nm, x, rfl, sg, pl⟩ := (hr.ok r hr').five
    have hn : NmH nm := hn
    show 10 ∉ kRule ++ nm ++ [32] ++ wrD 5 x
    intro z
    rcases List.mem_append.mp z with z | z
    · rcases List.mem_append.mp z with z | z
      · rcases List.mem_append.mp z with z | z
        · revert z; decide
        · have := hn.2.2 10 z
          revert this; decide
      · revert z; decide
    · exact wr_no sg z
theorem spl_cons {c : Nat} {s : List Nat} : ∀ {l : List Nat}, c ∉ l → spl1 c (l ++ c :: s) = l :: spl1 c s
  | [], _ => by rw [List.nil_append, spl1, if_pos rfl]
  | d :: l, h => by
    have h1 : d ≠ c := fun z => h (by rw [z]; exact List.mem_cons_self)
    have ih := spl_cons (s := s) (l := l) fun z => h (List.mem_cons_of_mem _ z)
    rw [List.cons_append, spl1, if_neg h1, ih]
theorem spl_lines : ∀ {L : List (List Nat)}, (∀ l ∈ L, 10 ∉ l) → spl1 10 ((L.map (· ++ [10])).flatten) = L ++ [[]]
  | [], _ => by simp [spl1]
  | a :: L, h => by
    rw [List.map_cons, List.flatten_cons, List.append_assoc, List.singleton_append, spl_cons (h a List.mem_cons_self), spl_lines fun l hl => h l (List.mem_cons_of_mem _ hl)]
    rfl
/-! ### the rules, line by line -/
def rbE (n : Nat) (a0 a1 : Option D) (t : List Nat) (x5 x6 x7 : Option D) : EV := [a0, a1, some (.str []), some (.str t), some (.ref (n + 1)), x5, x6, x7, none]
def nmbL (k : Nat) : List D → List D
  | [] => []
  | r :: rs => .tup [.int ((2 : Nat) + (k : Nat)), .str (lnR r)] :: nmbL (k + 1) rs
theorem nmbL_eq (rs : List D) : (rs.map fun r => D.str (lnR r)).mapIdx (fun i x => D.tup [.int ((2 : Nat) + (i : Nat)), x]) = nmbL 0 rs := by
  have go : ∀ (rs : List D) (k : Nat), (rs.map fun r => D.str (lnR r)).mapIdx (fun i x => D.tup [.int ((2 : Nat) + ((i + k : Nat) : Int)), x]) = nmbL k rs := by
    intro rs
    induction rs with
    | nil => intro k; rfl
    | cons r rs ih =>
      intro k
      rw [List.map_cons, List.mapIdx_cons, nmbL, ← ih (k + 1)]
      congr 1
      · simp
      · congr 1
        funext i x
        rw [show i + 1 + k = i + (k + 1) by omega]
  exact go rs 0
theorem rb_loop {t : List Nat} (tg : Tgn t) {h : IH} {X : Cell} {a0 a1 : Option D} : ∀ (rs acc : List D) (k : Nat) (x5 x6 x7 : Option D), RulesH t (acc ++ rs) → (acc ++ rs).length ≤ 6 →
    ∃ y5 y6 y7, forL (gSets [5, 6]) b_read_book_2 (nmbL k rs) (rbE h.length a0 a1 t x5 x6 x7) (h ++ [X, .lst acc]) = .nx (rbE h.length a0 a1 t y5 y6 y7) (h ++ [X, .lst (acc ++ rs)])
  | [], acc, k, x5, x6, x7, _, _ => ⟨x5, x6, x7, by simp [forL, nmbL]⟩
  | r :: rs, acc, k, x5, x6, x7, hr, hl => by
    have hr' : RulesH t ((acc ++ [r]) ++ rs) := by rw [List.append_assoc]; exact hr
    have hl' : ((acc ++ [r]) ++ rs).length ≤ 6 := by rw [List.append_assoc]; exact hl
    obtain ⟨y5, y6, y7, ih⟩ := rb_loop tg (h := h) (X := X) (a0 := a0) (a1 := a1) rs (acc ++ [r]) (k + 1) (some (.int ((2 : Nat) + (k : Nat)))) (some (.str (lnR r))) (some r) hr' hl'
    refine ⟨y5, y6, y7, ?_⟩
    rw [nmbL, forL_cons (e1 := rbE h.length a0 a1 t (some (.int ((2 : Nat) + (k : Nat)))) (some (.str (lnR r))) x7) rfl]
    have rm : r ∈ acc ++ r :: rs := by simp
    have ok := hr.ok r rm
    have hn := hr.nm _ (List.mem_map_of_mem rm)
    have al : acc.length ≤ 5 := by rw [List.length_append, List.length_cons] at hl; omega
    have nn : nmD r ∉ acc.map nmD := by
      have nd := hr.nd
      rw [List.map_append, List.nodup_append] at nd
      exact fun z => nd.2.2 _ z _ (by simp) rfl
    have ao : ∀ x ∈ acc, RuleOk t x := fun x hx => hr.ok x (List.mem_append_left _ hx)
    have rl : (h ++ [X, Cell.lst acc])[h.length + 1]? = some (.lst acc) := by
      rw [get_app]
      rfl
    have comp := lcF_mapS (h := h ++ [X, .lst acc]) (env := rbE h.length a0 a1 t (some (.int ((2 : Nat) + (k : Nat)))) (some (.str (lnR r))) x7) (it := iSeq (mVar 4)) (gg := gSet 8) (m := e_read_book_1) (ws := [8]) (src := .ls (h.length + 1)) (ds := acc) (fun d => match d with | .tup (x :: _) => x | d => d) (iSeq_ls (by simp [rbE]) rl) (fun x => (src_ls (get_old rl)).1) (fun x i => (src_ls (get_old rl)).2.1 i) (src_ls rl).2.2 (by omega) (fun d hd => by
      obtain ⟨nm, x, e, rfl, _⟩ := ao d hd
      rfl) (fun d hd => by
      obtain ⟨nm, x, e, rfl, _⟩ := ao d hd
      refine ⟨_, rfl, fun y => ?_⟩
      have i0 : dIx (.tup [.str nm, x]) (.int 0) (h ++ [X, .lst acc] ++ [y]) = .ok (.str nm) (h ++ [X, .lst acc] ++ [y]) := dIx_seq (xs := [.str nm, x]) rfl (by omega) rfl
      unfold e_read_book_1
      generalize h ++ [X, .lst acc] ++ [y] = H1 at *
      simp [wipeE, rbE, i0])
    have em : acc.map (fun d => match d with | .tup (x :: _) => x | d => d) = (acc.map nmD).map D.str := nm_sh ao
    rw [em] at comp
    have rc := rule_in_call tg ok hn (ns := acc.map nmD) (by rw [List.length_map]; exact al) nn (h ++ [X, .lst acc])
    have ty := tyD_ref rl
    have ap := append_at (y := r) rl (by omega)
    have s2 : (h ++ [X, Cell.lst acc]).set (h.length + 1) (.lst (acc ++ [r])) = h ++ [X, .lst (acc ++ [r])] := by
      rw [set_app]
      rfl
    rw [s2] at ap
    have dn : ∀ g : IH, dIsN false r .non g = .ok (.bl false) g := fun g => by
      obtain ⟨nm, x, rfl, _⟩ := ok.five
      rfl
    have e : b_read_book_2 (rbE h.length a0 a1 t (some (.int ((2 : Nat) + (k : Nat)))) (some (.str (lnR r))) x7) (h ++ [X, .lst acc]) = .nx (rbE h.length a0 a1 t (some (.int ((2 : Nat) + (k : Nat)))) (some (.str (lnR r))) (some r)) (h ++ [X, .lst (acc ++ [r])]) := by
      clear ih s2 rl
      unfold b_read_book_2
      unfold rbE at comp ⊢
      generalize (acc.map nmD).map D.str = NS at *
      generalize lnR r = LN at *
      generalize h ++ [X, Cell.lst acc] = H1 at *
      generalize mFz (mLc (iSeq (mVar 4)) (gSet 8) mYes e_read_book_1 [8]) = CC at *
      generalize ((2 : Nat) : Int) + (k : Nat) = K0 at *
      simp [comp, rc, dn, ty, ap]
    rw [e, on_nx, ih, List.append_assoc]
    rfl
theorem ap_mMeth0S {b : ME} {env : EV} {h : IH} : mMeth0 "list" fPop0 b env h = (b env h).bind fun x h1 => if tyD "list" h1 x = true then fPop0 x [] h1 else .no := rfl
theorem read_book_call {t : List Nat} (tg : Tgn t) {rs : List D} (hr : RulesH t rs) (l6 : rs.length ≤ 6) (w10 : (rs.map wtD).sum ≤ 10) (h : IH) : callC 1 m_read_book [.str (bwT t rs)] h = .ok (.tup [.str t, .tup rs]) h := by
  have bl := bwT_len tg hr l6
  have ls := ln0_len tg
  have sp : fSplit (.str (bwT t rs)) [.str [10]] h = .ok (.ref h.length) (h ++ [.lst (((linesB t rs) ++ [[]]).map D.str)]) := by
    show (if _ then _ else _) = _
    rw [if_pos ⟨by omega, by omega⟩]
    have : spl1 10 (bwT t rs) = linesB t rs ++ [[]] := spl_lines (lines_no hr)
    rw [this]
  have lz : (linesB t rs).length = rs.length + 1 := by unfold linesB; simp
  have po : fPop0 (.ref h.length) [] (h ++ [.lst (((linesB t rs) ++ [[]]).map D.str)]) = .ok (.str []) (h ++ [.lst ((linesB t rs).map D.str)]) := by
    unfold fPop0
    dsimp only
    rw [get_last]
    dsimp only
    rw [List.map_append, List.map_cons, List.map_nil]
    have e : ((linesB t rs).map D.str ++ [D.str []])[((linesB t rs).map D.str ++ [D.str []]).length - 1]? = some (D.str []) := by simp
    rw [e]
    dsimp only
    rw [set_app0, List.dropLast_concat]
    rfl
  have rl : (h ++ [Cell.lst ((linesB t rs).map D.str)])[h.length]? = some (.lst ((linesB t rs).map D.str)) := by simp
  have rl0 : (h ++ [Cell.lst (((linesB t rs) ++ [[]]).map D.str)])[h.length]? = some (.lst (((linesB t rs) ++ [[]]).map D.str)) := by simp
  have ty := tyD_ref rl0
  have s1 : ∀ g : IH, fzR g (sliceD (.fl ((linesB t rs).map D.str)) none (some 1) g) = .ok (.fl [.str (ln0 t)]) g := fun g => by
    rw [sliceD_fl, fz_newL, cutD_to (by omega)]
    show fzD g g [.str (ln0 t)] = _
    exact fzD_same (by simp)
  have s2 : ∀ g : IH, fzR g (sliceD (.fl ((linesB t rs).map D.str)) (some 1) none g) = .ok (.fl (rs.map fun r => D.str (lnR r))) g := fun g => by
    rw [sliceD_fl, fz_newL, cutD_from (by omega)]
    have e : ((linesB t rs).map D.str).drop (1 : Int).toNat = rs.map fun r => D.str (lnR r) := by
      show (rs.map lnR).map D.str = _
      rw [List.map_map]
      rfl
    rw [e]
    exact fzD_same (loL_of fun x hx => by obtain ⟨r, _, rfl⟩ := List.mem_map.mp hx; rfl)
  have jn : ∀ g : IH, fJoin (.str []) [.fl [.str (ln0 t)]] g = .ok (.str (ln0 t)) g := fun g => by
    have := join_all (a := []) (ys := [ln0 t]) (h := g) (by simp; omega)
    rw [joinN_nil] at this
    have e : [ln0 t].flatten = ln0 t := by simp
    rw [e] at this
    exact this
  have ti := fun g => tongue_in_call tg g
  obtain ⟨y5, y6, y7, lp⟩ := rb_loop tg (h := h) (X := .frz ((linesB t rs).map D.str)) (a0 := some (.str (bwT t rs))) (a1 := some (.fl ((linesB t rs).map D.str))) rs [] 0 none none none hr l6
  have lb := fun g => looked_book_call tg hr l6 w10 g
  have bt : bTupleX [.ref (h.length + 1)] (h ++ [.frz ((linesB t rs).map D.str), .lst rs]) = .ok (.tup rs) (h ++ [.frz ((linesB t rs).map D.str), .lst rs]) := bTupleX_ref (by rw [get_app]; rfl)
  refine callC_pure (g := [.frz ((linesB t rs).map D.str), .lst rs]) rfl ?_ (by
    have : D.loL h.length rs = true := loL_of fun r hm => (hr.ok r hm).lo _
    simp [this])
  unfold m_read_book
  rw [ap_fnM]
  simp only [List.map_cons, List.map_nil, List.length_cons, List.length_nil, List.cons_append, List.nil_append, Nat.reduceAdd, Nat.reduceSub, List.replicate]
  generalize bwT t rs = B0 at *
  refine stN (env2 := [some (.str B0), some (.ref h.length), none, none, none, none, none, none, none]) (h2 := h ++ [.lst (((linesB t rs) ++ [[]]).map D.str)]) (by clear lp; simp [sp]) ?_
  refine stN (env2 := [some (.str B0), some (.ref h.length), some (.str []), none, none, none, none, none, none]) (h2 := h ++ [.lst ((linesB t rs).map D.str)]) (by
    clear lp
    generalize h ++ [Cell.lst (((linesB t rs) ++ [[]]).map D.str)] = H1 at *
    simp [ap_mMeth0S, ty, po]) ?_
  refine stN (env2 := [some (.str B0), some (.fl ((linesB t rs).map D.str)), some (.str []), some (.str t), none, none, none, none, none]) (h2 := h ++ [.frz ((linesB t rs).map D.str)]) (by
    rw [ap_msFz (n := h.length) (xs := (linesB t rs).map D.str) rfl rl, set_app0]
    clear lp
    generalize (linesB t rs).map D.str = LL at *
    simp [s1, jn, ti]) ?_
  refine stN (env2 := [some (.str B0), some (.fl ((linesB t rs).map D.str)), some (.str []), some (.str t), none, none, none, none, none]) (h2 := h ++ [.frz ((linesB t rs).map D.str)]) (by
    clear lp
    generalize (linesB t rs).map D.str = LL at *
    simp) ?_
  refine stN (env2 := rbE h.length (some (.str B0)) (some (.fl ((linesB t rs).map D.str))) t none none none) (h2 := h ++ [.frz ((linesB t rs).map D.str), .lst []]) (by
    clear lp
    generalize (linesB t rs).map D.str = LL at *
    simp [newL, rbE]) ?_
  refine stN (env2 := rbE h.length (some (.str B0)) (some (.fl ((linesB t rs).map D.str))) t y5 y6 y7) (h2 := h ++ [.frz ((linesB t rs).map D.str), .lst rs]) ((for_st (ds := nmbL 0 rs) (h2 := h ++ [.frz ((linesB t rs).map D.str), .lst []]) (by
    clear lp
    rw [← nmbL_eq]
    unfold rbE iEnumS
    have s2' := s2 (h ++ [.frz ((linesB t rs).map D.str), .lst []])
    generalize (linesB t rs).map D.str = LL at *
    generalize (rs.map fun r => D.str (lnR r)) = LR at *
    generalize h ++ [Cell.frz LL, .lst []] = H1 at *
    simp [s2', stOf])).trans lp) ?_
  unfold rbE
  refine stN (env2 := [some (.str B0), some (.fl ((linesB t rs).map D.str)), some (.str []), some (.str t), some (.ref (h.length + 1)), y5, y6, y7, none]) (h2 := h ++ [.frz ((linesB t rs).map D.str), .lst rs]) (by
    clear lp
    generalize (linesB t rs).map D.str = LL at *
    simp) ?_
  have lb' := lb (h ++ [.frz ((linesB t rs).map D.str), .lst rs])
  clear lp
  generalize (linesB t rs).map D.str = LL at *
  generalize h ++ [Cell.frz LL, .lst rs] = H1 at *
  simp [bt, lb']
end NR

set_option Elab.async false
set_option linter.all false
set_option maxRecDepth 100000
set_option maxHeartbeats 4000000
namespace NR
open PySem PySem.Spec PyProof.Rows L2
theorem tsB_tup {k : Nat} {l : List D} (h : ∀ y ∈ l, tsB k y = true) (n : l.length ≤ 1000) : tsB (k + 1) (.tup l) = true := by
  show (l.all (tsB k) && decide (l.length ≤ 1000)) = true
  rw [Bool.and_eq_true, List.all_eq_true]
  exact ⟨h, decide_eq_true n⟩
theorem tsB_str {k : Nat} {s : List Nat} (n : s.length ≤ 1000) : tsB (k + 1) (.str s) = true := decide_eq_true n
theorem book_ts {t : List Nat} (tg : Tgn t) {rs : List D} (hr : RulesH t rs) (l6 : rs.length ≤ 6) : tsB 24 (.tup [.str t, .tup rs]) = true := by
  have l2 := tg.l2
  have hx : ∀ r ∈ rs, tsB 22 r = true := fun r hm => by
    have hn := hr.nm _ (List.mem_map_of_mem hm)
    obtain ⟨nm, x, rfl, sg, pl⟩ := (hr.ok r hm).five
    have hn : NmH nm := hn
    have n8 := hn.2.1
    have tx : tsB 21 x = true := tsB_up (by omega) (sg_ts sg)
    refine tsB_tup (k := 21) (fun y hy => ?_) (by simp)
    rcases List.mem_cons.mp hy with rfl | hy
    · exact tsB_str (k := 20) (by omega)
    · rw [List.mem_singleton] at hy
      rw [hy]
      exact tx
  refine tsB_tup (k := 23) (fun y hy => ?_) (by simp)
  rcases List.mem_cons.mp hy with rfl | hy
  · exact tsB_str (k := 22) (by omega)
  · rw [List.mem_singleton] at hy
    rw [hy]
    exact tsB_tup (k := 22) hx (by omega)
theorem book_right_call {t : List Nat} (tg : Tgn t) {rs : List D} (hr : RulesH t rs) (l6 : rs.length ≤ 6) (w10 : (rs.map wtD).sum ≤ 10) (h : IH) : callC 1 m__law_right [.tup [.str t, .tup rs]] h = .ok (.bl true) h := by
  have c1 := law_book_written_call tg hr l6 h
  have c2 := book_text_call tg hr l6 h
  have c3 := read_book_call tg hr l6 w10 h
  have c4 := alike_call 24 _ (book_ts tg hr l6) h
  refine callC_same rfl ?_
  unfold m__law_right
  generalize bwT t rs = B at *
  generalize D.tup [.str t, .tup rs] = BK at *
  simp [c1, c2, c3, c4]
end NR

set_option Elab.async false
set_option linter.all false
set_option maxRecDepth 100000
set_option maxHeartbeats 4000000
namespace NR
open PySem PySem.Spec PyProof.Rows L2
theorem law_true : LawOk m_law := by
  intro ns l
  obtain ⟨c0, e0, p0⟩ := source_eq ns l
  generalize Cell.frz (ns.map D.int) = z at *
  obtain ⟨t1, r1, c1, e1, g1, h1, l1, w1, p1⟩ := hbook_call (b := 10000) (H := 10) (z := z) (c := c0) (g := []) (p0.mono (by omega))
  obtain ⟨t2, r2, c2, e2, g2, h2, l2, w2, p2⟩ := hbook_call (b := 1000) (H := 10) (z := z) (c := c1) (g := []) (p1.mono (by omega))
  have a1 := book_right_call g1 h1 l1 (by omega) [z, c2]
  have a2 := book_right_call g2 h2 l2 (by omega) [z, c2]
  have e1 : callC 2 m__law_book [.ref 1, .int 10] [z, c0] = _ := e1
  have e2 : callC 2 m__law_book [.ref 1, .int 10] [z, c1] = _ := e2
  generalize D.tup [.str t1, .tup r1] = B1 at *
  generalize D.tup [.str t2, .tup r2] = B2 at *
  refine ⟨[z, c2], ?_⟩
  unfold m_law
  simp [e0, e1, e2, a1, a2]
end NR

set_option Elab.async false
set_option linter.all false
set_option maxRecDepth 100000
set_option maxHeartbeats 4000000
namespace NR
open PySem PySem.Spec PyProof.Rows L2
theorem all_mk {l : PySem.W.OpenLaw} {w : World} {K : PySem.W.Frag} {h : Heap} {mg : Str → Option Value} {fa : Addr} (X : K.In h) (Gn : h.Ns mainGlobals mg) (hfa : mg "law" = some (.ref fa))
    (z_abs : PySem.W.nsIn K mainGlobals "abs" = some none)
    (z_all : PySem.W.nsIn K mainGlobals "all" = some none)
    (z_bool : PySem.W.nsIn K mainGlobals "bool" = some none)
    (z_enumerate : PySem.W.nsIn K mainGlobals "enumerate" = some none)
    (z_int : PySem.W.nsIn K mainGlobals "int" = some none)
    (z_isinstance : PySem.W.nsIn K mainGlobals "isinstance" = some none)
    (z_len : PySem.W.nsIn K mainGlobals "len" = some none)
    (z_list : PySem.W.nsIn K mainGlobals "list" = some none)
    (z_range : PySem.W.nsIn K mainGlobals "range" = some none)
    (z_str : PySem.W.nsIn K mainGlobals "str" = some none)
    (z_sum : PySem.W.nsIn K mainGlobals "sum" = some none)
    (z_tuple : PySem.W.nsIn K mainGlobals "tuple" = some none)
    (z_zip : PySem.W.nsIn K mainGlobals "zip" = some none)
    (g_DEEPEST : ∃ t, PySem.W.nsIn K mainGlobals "DEEPEST" = some (some (.int 5 t)))
    (g_FIGURES : ∃ t, PySem.W.nsIn K mainGlobals "FIGURES" = some (some (.str (PySem.Str.ofString "0123456789") t)))
    (g_LETTERS_books : ∃ t, PySem.W.nsIn K mainGlobals "LETTERS_books" = some (some (.str (PySem.Str.ofString "abcdefghijklmnopqrstuvwxyz") t)))
    (g_LETTERS_booktexts : ∃ t, PySem.W.nsIn K mainGlobals "LETTERS_booktexts" = some (some (.str (PySem.Str.ofString "abcdefghijklmnopqrstuvwxyz") t)))
    (g_MOST_IN : ∃ t, PySem.W.nsIn K mainGlobals "MOST_IN" = some (some (.int 6 t)))
    (g_MOST_LETTERS : ∃ t, PySem.W.nsIn K mainGlobals "MOST_LETTERS" = some (some (.int 8 t)))
    (g_MOST_PARTS : ∃ t, PySem.W.nsIn K mainGlobals "MOST_PARTS" = some (some (.int 24 t)))
    (g_MOST_RULES : ∃ t, PySem.W.nsIn K mainGlobals "MOST_RULES" = some (some (.int 6 t)))
    (g_MOST_SIGNS : ∃ t, PySem.W.nsIn K mainGlobals "MOST_SIGNS" = some (some (.int 6 t)))
    (g_MOST_TIMES : ∃ t, PySem.W.nsIn K mainGlobals "MOST_TIMES" = some (some (.int 4 t)))
    (g_MOST_WEIGHT : ∃ t, PySem.W.nsIn K mainGlobals "MOST_WEIGHT" = some (some (.int 10 t)))
    (g_SIGNS : ∃ t, PySem.W.nsIn K mainGlobals "SIGNS" = some (some (.str (PySem.Str.ofString " !\"#$&'()*+,-./0123456789:;<=>?@ABCDEFGHIJKLMNOPQRSTUVWXYZ[\\]^_`abcdefghijklmnopqrstuvwxyz{|}~\n") t)))
    {c_NoBook : Addr} (ca_NoBook : PySem.W.nsIn K mainGlobals "NoBook" = some (some (.ref c_NoBook)))
    {c_NoLine : Addr} (ca_NoLine : PySem.W.nsIn K mainGlobals "NoLine" = some (some (.ref c_NoLine)))
    {c_NoQuote : Addr} (ca_NoQuote : PySem.W.nsIn K mainGlobals "NoQuote" = some (some (.ref c_NoQuote)))
    {c_NoShape : Addr} (ca_NoShape : PySem.W.nsIn K mainGlobals "NoShape" = some (some (.ref c_NoShape)))
    {c_TooHeavy : Addr} (ca_TooHeavy : PySem.W.nsIn K mainGlobals "TooHeavy" = some (some (.ref c_TooHeavy)))
    (cq_NoBook : PySem.W.excIn K c_NoBook [.type "ValueError", .type "Exception", .type "BaseException", .type "object"] "ValueError.__new__" = true)
    (ck_NoBook : PySem.W.keepIn K (.ref c_NoBook) = true)
    (cb_NoBook : PySem.W.subIn K (.ref c_NoBook) (.type "BaseException") = some true)
    (ct_NoBook : PySem.W.typeIn K (.ref c_NoBook) = some (.type "type"))
    (cg_NoBook : PySem.W.findIn K (.ref c_NoBook) "__getattribute__" = some (some (.builtin "BaseException.__getattribute__")))
    (ch_NoBook : PySem.W.findIn K (.ref c_NoBook) "__getattr__" = some none)
    (cd_NoBook : PySem.W.hasDictIn K c_NoBook = true)
    (cc_NoBook : PySem.W.findIn K (.ref c_NoBook) "__class__" = some (some (.builtin "object.__class__")))
    (cm_NoBook : PySem.W.mroIn K c_NoBook (.type "object") = some true)
    (cq_NoQuote : PySem.W.excIn K c_NoQuote [.type "ValueError", .type "Exception", .type "BaseException", .type "object"] "ValueError.__new__" = true)
    (ck_NoQuote : PySem.W.keepIn K (.ref c_NoQuote) = true)
    (cb_NoQuote : PySem.W.subIn K (.ref c_NoQuote) (.type "BaseException") = some true)
    (ct_NoQuote : PySem.W.typeIn K (.ref c_NoQuote) = some (.type "type"))
    (cg_NoQuote : PySem.W.findIn K (.ref c_NoQuote) "__getattribute__" = some (some (.builtin "BaseException.__getattribute__")))
    (ch_NoQuote : PySem.W.findIn K (.ref c_NoQuote) "__getattr__" = some none)
    (cd_NoQuote : PySem.W.hasDictIn K c_NoQuote = true)
    (cc_NoQuote : PySem.W.findIn K (.ref c_NoQuote) "__class__" = some (some (.builtin "object.__class__")))
    (cm_NoQuote : PySem.W.mroIn K c_NoQuote (.type "object") = some true)
    (cq_NoShape : PySem.W.excIn K c_NoShape [.type "ValueError", .type "Exception", .type "BaseException", .type "object"] "ValueError.__new__" = true)
    (ck_NoShape : PySem.W.keepIn K (.ref c_NoShape) = true)
    (cb_NoShape : PySem.W.subIn K (.ref c_NoShape) (.type "BaseException") = some true)
    (ct_NoShape : PySem.W.typeIn K (.ref c_NoShape) = some (.type "type"))
    (cg_NoShape : PySem.W.findIn K (.ref c_NoShape) "__getattribute__" = some (some (.builtin "BaseException.__getattribute__")))
    (ch_NoShape : PySem.W.findIn K (.ref c_NoShape) "__getattr__" = some none)
    (cd_NoShape : PySem.W.hasDictIn K c_NoShape = true)
    (cc_NoShape : PySem.W.findIn K (.ref c_NoShape) "__class__" = some (some (.builtin "object.__class__")))
    (cm_NoShape : PySem.W.mroIn K c_NoShape (.type "object") = some true)
    (cq_TooHeavy : PySem.W.excIn K c_TooHeavy [.type "ValueError", .type "Exception", .type "BaseException", .type "object"] "ValueError.__new__" = true)
    (ck_TooHeavy : PySem.W.keepIn K (.ref c_TooHeavy) = true)
    (cb_TooHeavy : PySem.W.subIn K (.ref c_TooHeavy) (.type "BaseException") = some true)
    (ct_TooHeavy : PySem.W.typeIn K (.ref c_TooHeavy) = some (.type "type"))
    (cg_TooHeavy : PySem.W.findIn K (.ref c_TooHeavy) "__getattribute__" = some (some (.builtin "BaseException.__getattribute__")))
    (ch_TooHeavy : PySem.W.findIn K (.ref c_TooHeavy) "__getattr__" = some none)
    (cd_TooHeavy : PySem.W.hasDictIn K c_TooHeavy = true)
    (cc_TooHeavy : PySem.W.findIn K (.ref c_TooHeavy) "__class__" = some (some (.builtin "object.__class__")))
    (cm_TooHeavy : PySem.W.mroIn K c_TooHeavy (.type "object") = some true)
    (cn : PySem.W.specialIn K (.builtin "object.__class__") "__get__" = some (some (.builtin "getset_descriptor.__get__")))
    (cx : PySem.W.takesIn K (.builtin "object.__class__") = some true)
    (hb_NoQuote : PySem.W.subIn K (.ref c_NoQuote) (.type "BaseException") = some true)
    (hd_NoQuote : PySem.W.hasDictIn K c_NoQuote = true)
    (ht_NoQuote : PySem.W.typeIn K (.ref c_NoQuote) = some (.type "type"))
    (hb_NoShape : PySem.W.subIn K (.ref c_NoShape) (.type "BaseException") = some true)
    (hd_NoShape : PySem.W.hasDictIn K c_NoShape = true)
    (ht_NoShape : PySem.W.typeIn K (.ref c_NoShape) = some (.type "type"))
    (h_NoBook_NoQuote : PySem.W.subIn K (.ref c_NoBook) (.ref c_NoQuote) = some false)
    (h_NoBook_NoShape : PySem.W.subIn K (.ref c_NoBook) (.ref c_NoShape) = some false)
    (h_NoLine_NoQuote : PySem.W.subIn K (.ref c_NoLine) (.ref c_NoQuote) = some false)
    (h_NoLine_NoShape : PySem.W.subIn K (.ref c_NoLine) (.ref c_NoShape) = some false)
    (h_NoQuote_NoQuote : PySem.W.subIn K (.ref c_NoQuote) (.ref c_NoQuote) = some true)
    (h_NoQuote_NoShape : PySem.W.subIn K (.ref c_NoQuote) (.ref c_NoShape) = some false)
    (h_NoShape_NoQuote : PySem.W.subIn K (.ref c_NoShape) (.ref c_NoQuote) = some false)
    (h_NoShape_NoShape : PySem.W.subIn K (.ref c_NoShape) (.ref c_NoShape) = some true)
    (h_TooHeavy_NoQuote : PySem.W.subIn K (.ref c_TooHeavy) (.ref c_NoQuote) = some false)
    (h_TooHeavy_NoShape : PySem.W.subIn K (.ref c_TooHeavy) (.ref c_NoShape) = some false)
    {f0 : Addr} {od0 an0 : Option Addr} {sl0 : Array (Option Value)} {oc0 kV0 dc0 pm0 cd0 ct0 : Value} (a0 : PySem.W.nsIn K mainGlobals "is_number" = some (some (.ref f0))) (l0 : K.lookup f0 = some ⟨oc0, od0, .func (PySem.W.fnOf "is_number" "is_number" (defArgs (topS 1)) (defBody (topS 1)) (defScope (topS 1)) .none kV0 dc0 pm0 an0 cd0 ct0), sl0⟩) (b0 : PySem.W.codeIn K cd0 "is_number" = true) (k0 : PySem.W.keepIn K (.ref f0) = true)
    {f1 : Addr} {od1 an1 : Option Addr} {sl1 : Array (Option Value)} {oc1 kV1 dc1 pm1 cd1 ct1 : Value} (a1 : PySem.W.nsIn K mainGlobals "is_tongue" = some (some (.ref f1))) (l1 : K.lookup f1 = some ⟨oc1, od1, .func (PySem.W.fnOf "is_tongue" "is_tongue" (defArgs (topS 12)) (defBody (topS 12)) (defScope (topS 12)) .none kV1 dc1 pm1 an1 cd1 ct1), sl1⟩) (b1 : PySem.W.codeIn K cd1 "is_tongue" = true) (k1 : PySem.W.keepIn K (.ref f1) = true)
    {f2 : Addr} {od2 an2 : Option Addr} {sl2 : Array (Option Value)} {oc2 kV2 dc2 pm2 cd2 ct2 : Value} (a2 : PySem.W.nsIn K mainGlobals "are_some" = some (some (.ref f2))) (l2 : K.lookup f2 = some ⟨oc2, od2, .func (PySem.W.fnOf "are_some" "are_some" (defArgs (topS 18)) (defBody (topS 18)) (defScope (topS 18)) .none kV2 dc2 pm2 an2 cd2 ct2), sl2⟩) (b2 : PySem.W.codeIn K cd2 "are_some" = true) (k2 : PySem.W.keepIn K (.ref f2) = true)
    {f3 : Addr} {od3 an3 : Option Addr} {sl3 : Array (Option Value)} {oc3 kV3 dc3 pm3 cd3 ct3 : Value} (a3 : PySem.W.nsIn K mainGlobals "inner" = some (some (.ref f3))) (l3 : K.lookup f3 = some ⟨oc3, od3, .func (PySem.W.fnOf "inner" "inner" (defArgs (topS 21)) (defBody (topS 21)) (defScope (topS 21)) .none kV3 dc3 pm3 an3 cd3 ct3), sl3⟩) (b3 : PySem.W.codeIn K cd3 "inner" = true) (k3 : PySem.W.keepIn K (.ref f3) = true)
    {f4 : Addr} {od4 an4 : Option Addr} {sl4 : Array (Option Value)} {oc4 kV4 dc4 pm4 cd4 ct4 : Value} (a4 : PySem.W.nsIn K mainGlobals "is_name_books" = some (some (.ref f4))) (l4 : K.lookup f4 = some ⟨oc4, od4, .func (PySem.W.fnOf "is_name" "is_name" (defArgs (topS 31)) (defBody (topS 31)) (defScope (topS 31)) .none kV4 dc4 pm4 an4 cd4 ct4), sl4⟩) (b4 : PySem.W.codeIn K cd4 "is_name" = true) (k4 : PySem.W.keepIn K (.ref f4) = true)
    {f5 : Addr} {od5 an5 : Option Addr} {sl5 : Array (Option Value)} {oc5 kV5 dc5 pm5 cd5 ct5 : Value} (a5 : PySem.W.nsIn K mainGlobals "sign_written" = some (some (.ref f5))) (l5 : K.lookup f5 = some ⟨oc5, od5, .func (PySem.W.fnOf "sign_written" "sign_written" (defArgs (topS 38)) (defBody (topS 38)) (defScope (topS 38)) .none kV5 dc5 pm5 an5 cd5 ct5), sl5⟩) (b5 : PySem.W.codeIn K cd5 "sign_written" = true) (k5 : PySem.W.keepIn K (.ref f5) = true)
    {f6 : Addr} {od6 an6 : Option Addr} {sl6 : Array (Option Value)} {oc6 kV6 dc6 pm6 cd6 ct6 : Value} (a6 : PySem.W.nsIn K mainGlobals "sign_behind" = some (some (.ref f6))) (l6 : K.lookup f6 = some ⟨oc6, od6, .func (PySem.W.fnOf "sign_behind" "sign_behind" (defArgs (topS 40)) (defBody (topS 40)) (defScope (topS 40)) .none kV6 dc6 pm6 an6 cd6 ct6), sl6⟩) (b6 : PySem.W.codeIn K cd6 "sign_behind" = true) (k6 : PySem.W.keepIn K (.ref f6) = true)
    {f7 : Addr} {od7 an7 : Option Addr} {sl7 : Array (Option Value)} {oc7 kV7 dc7 pm7 cd7 ct7 : Value} (a7 : PySem.W.nsIn K mainGlobals "figure_at" = some (some (.ref f7))) (l7 : K.lookup f7 = some ⟨oc7, od7, .func (PySem.W.fnOf "figure_at" "figure_at" (defArgs (topS 48)) (defBody (topS 48)) (defScope (topS 48)) .none kV7 dc7 pm7 an7 cd7 ct7), sl7⟩) (b7 : PySem.W.codeIn K cd7 "figure_at" = true) (k7 : PySem.W.keepIn K (.ref f7) = true)
    {f8 : Addr} {od8 an8 : Option Addr} {sl8 : Array (Option Value)} {oc8 kV8 dc8 pm8 cd8 ct8 : Value} (a8 : PySem.W.nsIn K mainGlobals "is_name_booktexts" = some (some (.ref f8))) (l8 : K.lookup f8 = some ⟨oc8, od8, .func (PySem.W.fnOf "is_name" "is_name" (defArgs (topS 56)) (defBody (topS 56)) (defScope (topS 56)) .none kV8 dc8 pm8 an8 cd8 ct8), sl8⟩) (b8 : PySem.W.codeIn K cd8 "is_name" = true) (k8 : PySem.W.keepIn K (.ref f8) = true)
    {f9 : Addr} {od9 an9 : Option Addr} {sl9 : Array (Option Value)} {oc9 kV9 dc9 pm9 cd9 ct9 : Value} (a9 : PySem.W.nsIn K mainGlobals "_law_hand" = some (some (.ref f9))) (l9 : K.lookup f9 = some ⟨oc9, od9, .func (PySem.W.fnOf "_law_hand" "_law_hand" (defArgs (topS 62)) (defBody (topS 62)) (defScope (topS 62)) .none kV9 dc9 pm9 an9 cd9 ct9), sl9⟩) (b9 : PySem.W.codeIn K cd9 "_law_hand" = true) (k9 : PySem.W.keepIn K (.ref f9) = true)
    {f10 : Addr} {od10 an10 : Option Addr} {sl10 : Array (Option Value)} {oc10 kV10 dc10 pm10 cd10 ct10 : Value} (a10 : PySem.W.nsIn K mainGlobals "_law_take" = some (some (.ref f10))) (l10 : K.lookup f10 = some ⟨oc10, od10, .func (PySem.W.fnOf "_law_take" "_law_take" (defArgs (topS 63)) (defBody (topS 63)) (defScope (topS 63)) .none kV10 dc10 pm10 an10 cd10 ct10), sl10⟩) (b10 : PySem.W.codeIn K cd10 "_law_take" = true) (k10 : PySem.W.keepIn K (.ref f10) = true)
    {f11 : Addr} {od11 an11 : Option Addr} {sl11 : Array (Option Value)} {oc11 kV11 dc11 pm11 cd11 ct11 : Value} (a11 : PySem.W.nsIn K mainGlobals "_law_signs" = some (some (.ref f11))) (l11 : K.lookup f11 = some ⟨oc11, od11, .func (PySem.W.fnOf "_law_signs" "_law_signs" (defArgs (topS 64)) (defBody (topS 64)) (defScope (topS 64)) .none kV11 dc11 pm11 an11 cd11 ct11), sl11⟩) (b11 : PySem.W.codeIn K cd11 "_law_signs" = true) (k11 : PySem.W.keepIn K (.ref f11) = true)
    {f12 : Addr} {od12 an12 : Option Addr} {sl12 : Array (Option Value)} {oc12 kV12 dc12 pm12 cd12 ct12 : Value} (a12 : PySem.W.nsIn K mainGlobals "_law_quote" = some (some (.ref f12))) (l12 : K.lookup f12 = some ⟨oc12, od12, .func (PySem.W.fnOf "_law_quote" "_law_quote" (defArgs (topS 70)) (defBody (topS 70)) (defScope (topS 70)) .none kV12 dc12 pm12 an12 cd12 ct12), sl12⟩) (b12 : PySem.W.codeIn K cd12 "_law_quote" = true) (k12 : PySem.W.keepIn K (.ref f12) = true)
    {f13 : Addr} {od13 an13 : Option Addr} {sl13 : Array (Option Value)} {oc13 kV13 dc13 pm13 cd13 ct13 : Value} (a13 : PySem.W.nsIn K mainGlobals "are_times" = some (some (.ref f13))) (l13 : K.lookup f13 = some ⟨oc13, od13, .func (PySem.W.fnOf "are_times" "are_times" (defArgs (topS 19)) (defBody (topS 19)) (defScope (topS 19)) .none kV13 dc13 pm13 an13 cd13 ct13), sl13⟩) (b13 : PySem.W.codeIn K cd13 "are_times" = true) (k13 : PySem.W.keepIn K (.ref f13) = true)
    {f14 : Addr} {od14 an14 : Option Addr} {sl14 : Array (Option Value)} {oc14 kV14 dc14 pm14 cd14 ct14 : Value} (a14 : PySem.W.nsIn K mainGlobals "quoted" = some (some (.ref f14))) (l14 : K.lookup f14 = some ⟨oc14, od14, .func (PySem.W.fnOf "quoted" "quoted" (defArgs (topS 39)) (defBody (topS 39)) (defScope (topS 39)) .none kV14 dc14 pm14 an14 cd14 ct14), sl14⟩) (b14 : PySem.W.codeIn K cd14 "quoted" = true) (k14 : PySem.W.keepIn K (.ref f14) = true)
    {f15 : Addr} {od15 an15 : Option Addr} {sl15 : Array (Option Value)} {oc15 kV15 dc15 pm15 cd15 ct15 : Value} (a15 : PySem.W.nsIn K mainGlobals "quote_at" = some (some (.ref f15))) (l15 : K.lookup f15 = some ⟨oc15, od15, .func (PySem.W.fnOf "quote_at" "quote_at" (defArgs (topS 41)) (defBody (topS 41)) (defScope (topS 41)) .none kV15 dc15 pm15 an15 cd15 ct15), sl15⟩) (b15 : PySem.W.codeIn K cd15 "quote_at" = true) (k15 : PySem.W.keepIn K (.ref f15) = true)
    {f16 : Addr} {od16 an16 : Option Addr} {sl16 : Array (Option Value)} {oc16 kV16 dc16 pm16 cd16 ct16 : Value} (a16 : PySem.W.nsIn K mainGlobals "_law_tongue" = some (some (.ref f16))) (l16 : K.lookup f16 = some ⟨oc16, od16, .func (PySem.W.fnOf "_law_tongue" "_law_tongue" (defArgs (topS 65)) (defBody (topS 65)) (defScope (topS 65)) .none kV16 dc16 pm16 an16 cd16 ct16), sl16⟩) (b16 : PySem.W.codeIn K cd16 "_law_tongue" = true) (k16 : PySem.W.keepIn K (.ref f16) = true)
    {f17 : Addr} {od17 an17 : Option Addr} {sl17 : Array (Option Value)} {oc17 kV17 dc17 pm17 cd17 ct17 : Value} (a17 : PySem.W.nsIn K mainGlobals "_law_one" = some (some (.ref f17))) (l17 : K.lookup f17 = some ⟨oc17, od17, .func (PySem.W.fnOf "_law_one" "_law_one" (defArgs (topS 66)) (defBody (topS 66)) (defScope (topS 66)) .none kV17 dc17 pm17 an17 cd17 ct17), sl17⟩) (b17 : PySem.W.codeIn K cd17 "_law_one" = true) (k17 : PySem.W.keepIn K (.ref f17) = true)
    {f18 : Addr} {od18 an18 : Option Addr} {sl18 : Array (Option Value)} {oc18 kV18 dc18 pm18 cd18 ct18 : Value} (a18 : PySem.W.nsIn K mainGlobals "_law_name" = some (some (.ref f18))) (l18 : K.lookup f18 = some ⟨oc18, od18, .func (PySem.W.fnOf "_law_name" "_law_name" (defArgs (topS 68)) (defBody (topS 68)) (defScope (topS 68)) .none kV18 dc18 pm18 an18 cd18 ct18), sl18⟩) (b18 : PySem.W.codeIn K cd18 "_law_name" = true) (k18 : PySem.W.keepIn K (.ref f18) = true)
    {f19 : Addr} {od19 an19 : Option Addr} {sl19 : Array (Option Value)} {oc19 kV19 dc19 pm19 cd19 ct19 : Value} (a19 : PySem.W.nsIn K mainGlobals "is_form" = some (some (.ref f19))) (l19 : K.lookup f19 = some ⟨oc19, od19, .func (PySem.W.fnOf "is_form" "is_form" (defArgs (topS 20)) (defBody (topS 20)) (defScope (topS 20)) .none kV19 dc19 pm19 an19 cd19 ct19), sl19⟩) (b19 : PySem.W.codeIn K cd19 "is_form" = true) (k19 : PySem.W.keepIn K (.ref f19) = true)
    {f20 : Addr} {od20 an20 : Option Addr} {sl20 : Array (Option Value)} {oc20 kV20 dc20 pm20 cd20 ct20 : Value} (a20 : PySem.W.nsIn K mainGlobals "unquoted" = some (some (.ref f20))) (l20 : K.lookup f20 = some ⟨oc20, od20, .func (PySem.W.fnOf "unquoted" "unquoted" (defArgs (topS 42)) (defBody (topS 42)) (defScope (topS 42)) .none kV20 dc20 pm20 an20 cd20 ct20), sl20⟩) (b20 : PySem.W.codeIn K cd20 "unquoted" = true) (k20 : PySem.W.keepIn K (.ref f20) = true)
    {f21 : Addr} {od21 an21 : Option Addr} {sl21 : Array (Option Value)} {oc21 kV21 dc21 pm21 cd21 ct21 : Value} (a21 : PySem.W.nsIn K mainGlobals "one_at" = some (some (.ref f21))) (l21 : K.lookup f21 = some ⟨oc21, od21, .func (PySem.W.fnOf "one_at" "one_at" (defArgs (topS 46)) (defBody (topS 46)) (defScope (topS 46)) .none kV21 dc21 pm21 an21 cd21 ct21), sl21⟩) (b21 : PySem.W.codeIn K cd21 "one_at" = true) (k21 : PySem.W.keepIn K (.ref f21) = true)
    {f22 : Addr} {od22 an22 : Option Addr} {sl22 : Array (Option Value)} {oc22 kV22 dc22 pm22 cd22 ct22 : Value} (a22 : PySem.W.nsIn K mainGlobals "tongue_in" = some (some (.ref f22))) (l22 : K.lookup f22 = some ⟨oc22, od22, .func (PySem.W.fnOf "tongue_in" "tongue_in" (defArgs (topS 55)) (defBody (topS 55)) (defScope (topS 55)) .none kV22 dc22 pm22 an22 cd22 ct22), sl22⟩) (b22 : PySem.W.codeIn K cd22 "tongue_in" = true) (k22 : PySem.W.keepIn K (.ref f22) = true)
    {f23 : Addr} {od23 an23 : Option Addr} {sl23 : Array (Option Value)} {oc23 kV23 dc23 pm23 cd23 ct23 : Value} (a23 : PySem.W.nsIn K mainGlobals "is_of" = some (some (.ref f23))) (l23 : K.lookup f23 = some ⟨oc23, od23, .func (PySem.W.fnOf "is_of" "is_of" (defArgs (topS 33)) (defBody (topS 33)) (defScope (topS 33)) .none kV23 dc23 pm23 an23 cd23 ct23), sl23⟩) (b23 : PySem.W.codeIn K cd23 "is_of" = true) (k23 : PySem.W.keepIn K (.ref f23) = true)
    {f24 : Addr} {od24 an24 : Option Addr} {sl24 : Array (Option Value)} {oc24 kV24 dc24 pm24 cd24 ct24 : Value} (a24 : PySem.W.nsIn K mainGlobals "_law_alike" = some (some (.ref f24))) (l24 : K.lookup f24 = some ⟨oc24, od24, .func (PySem.W.fnOf "_law_alike" "_law_alike" (defArgs (topS 72)) (defBody (topS 72)) (defScope (topS 72)) .none kV24 dc24 pm24 an24 cd24 ct24), sl24⟩) (b24 : PySem.W.codeIn K cd24 "_law_alike" = true) (k24 : PySem.W.keepIn K (.ref f24) = true)
    {f25 : Addr} {od25 an25 : Option Addr} {sl25 : Array (Option Value)} {oc25 kV25 dc25 pm25 cd25 ct25 : Value} (a25 : PySem.W.nsIn K mainGlobals "weight" = some (some (.ref f25))) (l25 : K.lookup f25 = some ⟨oc25, od25, .func (PySem.W.fnOf "weight" "weight" (defArgs (topS 24)) (defBody (topS 24)) (defScope (topS 24)) .none kV25 dc25 pm25 an25 cd25 ct25), sl25⟩) (b25 : PySem.W.codeIn K cd25 "weight" = true) (k25 : PySem.W.keepIn K (.ref f25) = true)
    {f26 : Addr} {od26 an26 : Option Addr} {sl26 : Array (Option Value)} {oc26 kV26 dc26 pm26 cd26 ct26 : Value} (a26 : PySem.W.nsIn K mainGlobals "parts_of" = some (some (.ref f26))) (l26 : K.lookup f26 = some ⟨oc26, od26, .func (PySem.W.fnOf "parts_of" "parts_of" (defArgs (topS 25)) (defBody (topS 25)) (defScope (topS 25)) .none kV26 dc26 pm26 an26 cd26 ct26), sl26⟩) (b26 : PySem.W.codeIn K cd26 "parts_of" = true) (k26 : PySem.W.keepIn K (.ref f26) = true)
    {f27 : Addr} {od27 an27 : Option Addr} {sl27 : Array (Option Value)} {oc27 kV27 dc27 pm27 cd27 ct27 : Value} (a27 : PySem.W.nsIn K mainGlobals "_law_written" = some (some (.ref f27))) (l27 : K.lookup f27 = some ⟨oc27, od27, .func (PySem.W.fnOf "_law_written" "_law_written" (defArgs (topS 71)) (defBody (topS 71)) (defScope (topS 71)) .none kV27 dc27 pm27 an27 cd27 ct27), sl27⟩) (b27 : PySem.W.codeIn K cd27 "_law_written" = true) (k27 : PySem.W.keepIn K (.ref f27) = true)
    {f28 : Addr} {od28 an28 : Option Addr} {sl28 : Array (Option Value)} {oc28 kV28 dc28 pm28 cd28 ct28 : Value} (a28 : PySem.W.nsIn K mainGlobals "shape_text" = some (some (.ref f28))) (l28 : K.lookup f28 = some ⟨oc28, od28, .func (PySem.W.fnOf "shape_text" "shape_text" (defArgs (topS 45)) (defBody (topS 45)) (defScope (topS 45)) .none kV28 dc28 pm28 an28 cd28 ct28), sl28⟩) (b28 : PySem.W.codeIn K cd28 "shape_text" = true) (k28 : PySem.W.keepIn K (.ref f28) = true)
    {f29 : Addr} {od29 an29 : Option Addr} {sl29 : Array (Option Value)} {oc29 kV29 dc29 pm29 cd29 ct29 : Value} (a29 : PySem.W.nsIn K mainGlobals "signs_in" = some (some (.ref f29))) (l29 : K.lookup f29 = some ⟨oc29, od29, .func (PySem.W.fnOf "signs_in" "signs_in" (defArgs (topS 58)) (defBody (topS 58)) (defScope (topS 58)) .none kV29 dc29 pm29 an29 cd29 ct29), sl29⟩) (b29 : PySem.W.codeIn K cd29 "signs_in" = true) (k29 : PySem.W.keepIn K (.ref f29) = true)
    {f30 : Addr} {od30 an30 : Option Addr} {sl30 : Array (Option Value)} {oc30 kV30 dc30 pm30 cd30 ct30 : Value} (a30 : PySem.W.nsIn K mainGlobals "_law_shape" = some (some (.ref f30))) (l30 : K.lookup f30 = some ⟨oc30, od30, .func (PySem.W.fnOf "_law_shape" "_law_shape" (defArgs (topS 67)) (defBody (topS 67)) (defScope (topS 67)) .none kV30 dc30 pm30 an30 cd30 ct30), sl30⟩) (b30 : PySem.W.codeIn K cd30 "_law_shape" = true) (k30 : PySem.W.keepIn K (.ref f30) = true)
    {f31 : Addr} {od31 an31 : Option Addr} {sl31 : Array (Option Value)} {oc31 kV31 dc31 pm31 cd31 ct31 : Value} (a31 : PySem.W.nsIn K mainGlobals "_law_book_written" = some (some (.ref f31))) (l31 : K.lookup f31 = some ⟨oc31, od31, .func (PySem.W.fnOf "_law_book_written" "_law_book_written" (defArgs (topS 73)) (defBody (topS 73)) (defScope (topS 73)) .none kV31 dc31 pm31 an31 cd31 ct31), sl31⟩) (b31 : PySem.W.codeIn K cd31 "_law_book_written" = true) (k31 : PySem.W.keepIn K (.ref f31) = true)
    {f32 : Addr} {od32 an32 : Option Addr} {sl32 : Array (Option Value)} {oc32 kV32 dc32 pm32 cd32 ct32 : Value} (a32 : PySem.W.nsIn K mainGlobals "counted" = some (some (.ref f32))) (l32 : K.lookup f32 = some ⟨oc32, od32, .func (PySem.W.fnOf "counted" "counted" (defArgs (topS 22)) (defBody (topS 22)) (defScope (topS 22)) .none kV32 dc32 pm32 an32 cd32 ct32), sl32⟩) (b32 : PySem.W.codeIn K cd32 "counted" = true) (k32 : PySem.W.keepIn K (.ref f32) = true)
    {f33 : Addr} {od33 an33 : Option Addr} {sl33 : Array (Option Value)} {oc33 kV33 dc33 pm33 cd33 ct33 : Value} (a33 : PySem.W.nsIn K mainGlobals "parts_at" = some (some (.ref f33))) (l33 : K.lookup f33 = some ⟨oc33, od33, .func (PySem.W.fnOf "parts_at" "parts_at" (defArgs (topS 47)) (defBody (topS 47)) (defScope (topS 47)) .none kV33 dc33 pm33 an33 cd33 ct33), sl33⟩) (b33 : PySem.W.codeIn K cd33 "parts_at" = true) (k33 : PySem.W.keepIn K (.ref f33) = true)
    {f34 : Addr} {od34 an34 : Option Addr} {sl34 : Array (Option Value)} {oc34 kV34 dc34 pm34 cd34 ct34 : Value} (a34 : PySem.W.nsIn K mainGlobals "times_at" = some (some (.ref f34))) (l34 : K.lookup f34 = some ⟨oc34, od34, .func (PySem.W.fnOf "times_at" "times_at" (defArgs (topS 49)) (defBody (topS 49)) (defScope (topS 49)) .none kV34 dc34 pm34 an34 cd34 ct34), sl34⟩) (b34 : PySem.W.codeIn K cd34 "times_at" = true) (k34 : PySem.W.keepIn K (.ref f34) = true)
    {f35 : Addr} {od35 an35 : Option Addr} {sl35 : Array (Option Value)} {oc35 kV35 dc35 pm35 cd35 ct35 : Value} (a35 : PySem.W.nsIn K mainGlobals "shape_at" = some (some (.ref f35))) (l35 : K.lookup f35 = some ⟨oc35, od35, .func (PySem.W.fnOf "shape_at" "shape_at" (defArgs (topS 50)) (defBody (topS 50)) (defScope (topS 50)) .none kV35 dc35 pm35 an35 cd35 ct35), sl35⟩) (b35 : PySem.W.codeIn K cd35 "shape_at" = true) (k35 : PySem.W.keepIn K (.ref f35) = true)
    {f36 : Addr} {od36 an36 : Option Addr} {sl36 : Array (Option Value)} {oc36 kV36 dc36 pm36 cd36 ct36 : Value} (a36 : PySem.W.nsIn K mainGlobals "book_text" = some (some (.ref f36))) (l36 : K.lookup f36 = some ⟨oc36, od36, .func (PySem.W.fnOf "book_text" "book_text" (defArgs (topS 54)) (defBody (topS 54)) (defScope (topS 54)) .none kV36 dc36 pm36 an36 cd36 ct36), sl36⟩) (b36 : PySem.W.codeIn K cd36 "book_text" = true) (k36 : PySem.W.keepIn K (.ref f36) = true)
    {f37 : Addr} {od37 an37 : Option Addr} {sl37 : Array (Option Value)} {oc37 kV37 dc37 pm37 cd37 ct37 : Value} (a37 : PySem.W.nsIn K mainGlobals "_law_book" = some (some (.ref f37))) (l37 : K.lookup f37 = some ⟨oc37, od37, .func (PySem.W.fnOf "_law_book" "_law_book" (defArgs (topS 69)) (defBody (topS 69)) (defScope (topS 69)) .none kV37 dc37 pm37 an37 cd37 ct37), sl37⟩) (b37 : PySem.W.codeIn K cd37 "_law_book" = true) (k37 : PySem.W.keepIn K (.ref f37) = true)
    {f38 : Addr} {od38 an38 : Option Addr} {sl38 : Array (Option Value)} {oc38 kV38 dc38 pm38 cd38 ct38 : Value} (a38 : PySem.W.nsIn K mainGlobals "is_shape" = some (some (.ref f38))) (l38 : K.lookup f38 = some ⟨oc38, od38, .func (PySem.W.fnOf "is_shape" "is_shape" (defArgs (topS 23)) (defBody (topS 23)) (defScope (topS 23)) .none kV38 dc38 pm38 an38 cd38 ct38), sl38⟩) (b38 : PySem.W.codeIn K cd38 "is_shape" = true) (k38 : PySem.W.keepIn K (.ref f38) = true)
    {f39 : Addr} {od39 an39 : Option Addr} {sl39 : Array (Option Value)} {oc39 kV39 dc39 pm39 cd39 ct39 : Value} (a39 : PySem.W.nsIn K mainGlobals "is_rule" = some (some (.ref f39))) (l39 : K.lookup f39 = some ⟨oc39, od39, .func (PySem.W.fnOf "is_rule" "is_rule" (defArgs (topS 34)) (defBody (topS 34)) (defScope (topS 34)) .none kV39 dc39 pm39 an39 cd39 ct39), sl39⟩) (b39 : PySem.W.codeIn K cd39 "is_rule" = true) (k39 : PySem.W.keepIn K (.ref f39) = true)
    {f40 : Addr} {od40 an40 : Option Addr} {sl40 : Array (Option Value)} {oc40 kV40 dc40 pm40 cd40 ct40 : Value} (a40 : PySem.W.nsIn K mainGlobals "read_shape" = some (some (.ref f40))) (l40 : K.lookup f40 = some ⟨oc40, od40, .func (PySem.W.fnOf "read_shape" "read_shape" (defArgs (topS 51)) (defBody (topS 51)) (defScope (topS 51)) .none kV40 dc40 pm40 an40 cd40 ct40), sl40⟩) (b40 : PySem.W.codeIn K cd40 "read_shape" = true) (k40 : PySem.W.keepIn K (.ref f40) = true)
    {f41 : Addr} {od41 an41 : Option Addr} {sl41 : Array (Option Value)} {oc41 kV41 dc41 pm41 cd41 ct41 : Value} (a41 : PySem.W.nsIn K mainGlobals "is_book" = some (some (.ref f41))) (l41 : K.lookup f41 = some ⟨oc41, od41, .func (PySem.W.fnOf "is_book" "is_book" (defArgs (topS 35)) (defBody (topS 35)) (defScope (topS 35)) .none kV41 dc41 pm41 an41 cd41 ct41), sl41⟩) (b41 : PySem.W.codeIn K cd41 "is_book" = true) (k41 : PySem.W.keepIn K (.ref f41) = true)
    {f42 : Addr} {od42 an42 : Option Addr} {sl42 : Array (Option Value)} {oc42 kV42 dc42 pm42 cd42 ct42 : Value} (a42 : PySem.W.nsIn K mainGlobals "rule_in" = some (some (.ref f42))) (l42 : K.lookup f42 = some ⟨oc42, od42, .func (PySem.W.fnOf "rule_in" "rule_in" (defArgs (topS 59)) (defBody (topS 59)) (defScope (topS 59)) .none kV42 dc42 pm42 an42 cd42 ct42), sl42⟩) (b42 : PySem.W.codeIn K cd42 "rule_in" = true) (k42 : PySem.W.keepIn K (.ref f42) = true)
    {f43 : Addr} {od43 an43 : Option Addr} {sl43 : Array (Option Value)} {oc43 kV43 dc43 pm43 cd43 ct43 : Value} (a43 : PySem.W.nsIn K mainGlobals "looked_book" = some (some (.ref f43))) (l43 : K.lookup f43 = some ⟨oc43, od43, .func (PySem.W.fnOf "looked_book" "looked_book" (defArgs (topS 36)) (defBody (topS 36)) (defScope (topS 36)) .none kV43 dc43 pm43 an43 cd43 ct43), sl43⟩) (b43 : PySem.W.codeIn K cd43 "looked_book" = true) (k43 : PySem.W.keepIn K (.ref f43) = true)
    {f44 : Addr} {od44 an44 : Option Addr} {sl44 : Array (Option Value)} {oc44 kV44 dc44 pm44 cd44 ct44 : Value} (a44 : PySem.W.nsIn K mainGlobals "read_book" = some (some (.ref f44))) (l44 : K.lookup f44 = some ⟨oc44, od44, .func (PySem.W.fnOf "read_book" "read_book" (defArgs (topS 60)) (defBody (topS 60)) (defScope (topS 60)) .none kV44 dc44 pm44 an44 cd44 ct44), sl44⟩) (b44 : PySem.W.codeIn K cd44 "read_book" = true) (k44 : PySem.W.keepIn K (.ref f44) = true)
    {f45 : Addr} {od45 an45 : Option Addr} {sl45 : Array (Option Value)} {oc45 kV45 dc45 pm45 cd45 ct45 : Value} (a45 : PySem.W.nsIn K mainGlobals "_law_right" = some (some (.ref f45))) (l45 : K.lookup f45 = some ⟨oc45, od45, .func (PySem.W.fnOf "_law_right" "_law_right" (defArgs (topS 74)) (defBody (topS 74)) (defScope (topS 74)) .none kV45 dc45 pm45 an45 cd45 ct45), sl45⟩) (b45 : PySem.W.codeIn K cd45 "_law_right" = true) (k45 : PySem.W.keepIn K (.ref f45) = true)
    {f46 : Addr} {od46 an46 : Option Addr} {sl46 : Array (Option Value)} {oc46 kV46 dc46 pm46 cd46 ct46 : Value} (a46 : PySem.W.nsIn K mainGlobals "law" = some (some (.ref f46))) (l46 : K.lookup f46 = some ⟨oc46, od46, .func (PySem.W.fnOf "law" "law" (defArgs (topS 75)) (defBody (topS 75)) (defScope (topS 75)) .none kV46 dc46 pm46 an46 cd46 ct46), sl46⟩) (b46 : PySem.W.codeIn K cd46 "law" = true) (k46 : PySem.W.keepIn K (.ref f46) = true) :
    ∃ fd : FuncData, (∀ (s : Shared) (v : Value), BindsTo s fd ⟨[v], []⟩ [("_law_script", v)]) ∧ ∀ base : Heap, K.In base → base.Ns mainGlobals mg → FnOk l.prog w K mg base (L2.CX l.prog w) 34 fa fd ["_law_script"] (spLaw ⟨K, fun _ => 0⟩ m_law) := by
  have e := hfa.symm.trans (PySem.W.mg_of X Gn a46)
  cases e
  have F0 := fun_mk (st := topS 1) l0 b0 k0
  have B0 := F0.binds (ps := ["thing"]) fun _ _ _ _ _ _ us hl => match us, hl with | [_], _ => rfl
  have F1 := fun_mk (st := topS 12) l1 b1 k1
  have B1 := F1.binds (ps := ["thing"]) fun _ _ _ _ _ _ us hl => match us, hl with | [_], _ => rfl
  have F2 := fun_mk (st := topS 18) l2 b2 k2
  have B2 := F2.binds (ps := ["thing", "least"]) fun _ _ _ _ _ _ us hl => match us, hl with | [_, _], _ => rfl
  have F3 := fun_mk (st := topS 21) l3 b3 k3
  have B3 := F3.binds (ps := ["shape"]) fun _ _ _ _ _ _ us hl => match us, hl with | [_], _ => rfl
  have F4 := fun_mk (st := topS 31) l4 b4 k4
  have B4 := F4.binds (ps := ["thing"]) fun _ _ _ _ _ _ us hl => match us, hl with | [_], _ => rfl
  have F5 := fun_mk (st := topS 38) l5 b5 k5
  have B5 := F5.binds (ps := ["sign"]) fun _ _ _ _ _ _ us hl => match us, hl with | [_], _ => rfl
  have F6 := fun_mk (st := topS 40) l6 b6 k6
  have B6 := F6.binds (ps := ["sign"]) fun _ _ _ _ _ _ us hl => match us, hl with | [_], _ => rfl
  have F7 := fun_mk (st := topS 48) l7 b7 k7
  have B7 := F7.binds (ps := ["text", "at"]) fun _ _ _ _ _ _ us hl => match us, hl with | [_, _], _ => rfl
  have F8 := fun_mk (st := topS 56) l8 b8 k8
  have B8 := F8.binds (ps := ["text"]) fun _ _ _ _ _ _ us hl => match us, hl with | [_], _ => rfl
  have F9 := fun_mk (st := topS 62) l9 b9 k9
  have B9 := F9.binds (ps := ["_law_script"]) fun _ _ _ _ _ _ us hl => match us, hl with | [_], _ => rfl
  have F10 := fun_mk (st := topS 63) l10 b10 k10
  have B10 := F10.binds (ps := ["_law_hand_here", "_law_many"]) fun _ _ _ _ _ _ us hl => match us, hl with | [_, _], _ => rfl
  have F11 := fun_mk (st := topS 64) l11 b11 k11
  have B11 := F11.binds (ps := []) fun _ _ _ _ _ _ us hl => match us, hl with | [], _ => rfl
  have F12 := fun_mk (st := topS 70) l12 b12 k12
  have B12 := F12.binds (ps := ["_law_text"]) fun _ _ _ _ _ _ us hl => match us, hl with | [_], _ => rfl
  have F13 := fun_mk (st := topS 19) l13 b13 k13
  have B13 := F13.binds (ps := ["low", "high"]) fun _ _ _ _ _ _ us hl => match us, hl with | [_, _], _ => rfl
  have F14 := fun_mk (st := topS 39) l14 b14 k14
  have B14 := F14.binds (ps := ["text"]) fun _ _ _ _ _ _ us hl => match us, hl with | [_], _ => rfl
  have F15 := fun_mk (st := topS 41) l15 b15 k15
  have B15 := F15.binds (ps := ["text", "at"]) fun _ _ _ _ _ _ us hl => match us, hl with | [_, _], _ => rfl
  have F16 := fun_mk (st := topS 65) l16 b16 k16
  have B16 := F16.binds (ps := ["_law_hand_here"]) fun _ _ _ _ _ _ us hl => match us, hl with | [_], _ => rfl
  have F17 := fun_mk (st := topS 66) l17 b17 k17
  have B17 := F17.binds (ps := ["_law_hand_here", "_law_tongue_here"]) fun _ _ _ _ _ _ us hl => match us, hl with | [_, _], _ => rfl
  have F18 := fun_mk (st := topS 68) l18 b18 k18
  have B18 := F18.binds (ps := ["_law_hand_here", "_law_names"]) fun _ _ _ _ _ _ us hl => match us, hl with | [_, _], _ => rfl
  have F19 := fun_mk (st := topS 20) l19 b19 k19
  have B19 := F19.binds (ps := ["thing"]) fun _ _ _ _ _ _ us hl => match us, hl with | [_], _ => rfl
  have F20 := fun_mk (st := topS 42) l20 b20 k20
  have B20 := F20.binds (ps := ["text"]) fun _ _ _ _ _ _ us hl => match us, hl with | [_], _ => rfl
  have F21 := fun_mk (st := topS 46) l21 b21 k21
  have B21 := F21.binds (ps := ["text", "at"]) fun _ _ _ _ _ _ us hl => match us, hl with | [_, _], _ => rfl
  have F22 := fun_mk (st := topS 55) l22 b22 k22
  have B22 := F22.binds (ps := ["line"]) fun _ _ _ _ _ _ us hl => match us, hl with | [_], _ => rfl
  have F23 := fun_mk (st := topS 33) l23 b23 k23
  have B23 := F23.binds (ps := ["shape", "tongue"]) fun _ _ _ _ _ _ us hl => match us, hl with | [_, _], _ => rfl
  have F24 := fun_mk (st := topS 72) l24 b24 k24
  have B24 := F24.binds (ps := ["_law_one_here", "_law_other"]) fun _ _ _ _ _ _ us hl => match us, hl with | [_, _], _ => rfl
  have F25 := fun_mk (st := topS 24) l25 b25 k25
  have B25 := F25.binds (ps := ["shape"]) fun _ _ _ _ _ _ us hl => match us, hl with | [_], _ => rfl
  have F26 := fun_mk (st := topS 25) l26 b26 k26
  have B26 := F26.binds (ps := ["shape"]) fun _ _ _ _ _ _ us hl => match us, hl with | [_], _ => rfl
  have F27 := fun_mk (st := topS 71) l27 b27 k27
  have B27 := F27.binds (ps := ["_law_shape_here"]) fun _ _ _ _ _ _ us hl => match us, hl with | [_], _ => rfl
  have F28 := fun_mk (st := topS 45) l28 b28 k28
  have B28 := F28.binds (ps := ["shape"]) fun _ _ _ _ _ _ us hl => match us, hl with | [_], _ => rfl
  have F29 := fun_mk (st := topS 58) l29 b29 k29
  have B29 := F29.binds (ps := ["shape"]) fun _ _ _ _ _ _ us hl => match us, hl with | [_], _ => rfl
  have F30 := fun_mk (st := topS 67) l30 b30 k30
  have B30 := F30.binds (ps := ["_law_hand_here", "_law_tongue_here", "_law_purse", "_law_factor", "_law_deep"]) fun _ _ _ _ _ _ us hl => match us, hl with | [_, _, _, _, _], _ => rfl
  have F31 := fun_mk (st := topS 73) l31 b31 k31
  have B31 := F31.binds (ps := ["_law_book_here"]) fun _ _ _ _ _ _ us hl => match us, hl with | [_], _ => rfl
  have F32 := fun_mk (st := topS 22) l32 b32 k32
  have B32 := F32.binds (ps := ["thing", "deep"]) fun _ _ _ _ _ _ us hl => match us, hl with | [_, _], _ => rfl
  have F33 := fun_mk (st := topS 47) l33 b33 k33
  have B33 := F33.binds (ps := ["text", "at", "close", "deep"]) fun _ _ _ _ _ _ us hl => match us, hl with | [_, _, _, _], _ => rfl
  have F34 := fun_mk (st := topS 49) l34 b34 k34
  have B34 := F34.binds (ps := ["text", "at", "deep"]) fun _ _ _ _ _ _ us hl => match us, hl with | [_, _, _], _ => rfl
  have F35 := fun_mk (st := topS 50) l35 b35 k35
  have B35 := F35.binds (ps := ["text", "at", "deep"]) fun _ _ _ _ _ _ us hl => match us, hl with | [_, _, _], _ => rfl
  have F36 := fun_mk (st := topS 54) l36 b36 k36
  have B36 := F36.binds (ps := ["book"]) fun _ _ _ _ _ _ us hl => match us, hl with | [_], _ => rfl
  have F37 := fun_mk (st := topS 69) l37 b37 k37
  have B37 := F37.binds (ps := ["_law_hand_here", "_law_heavy"]) fun _ _ _ _ _ _ us hl => match us, hl with | [_, _], _ => rfl
  have F38 := fun_mk (st := topS 23) l38 b38 k38
  have B38 := F38.binds (ps := ["thing"]) fun _ _ _ _ _ _ us hl => match us, hl with | [_], _ => rfl
  have F39 := fun_mk (st := topS 34) l39 b39 k39
  have B39 := F39.binds (ps := ["thing", "tongue"]) fun _ _ _ _ _ _ us hl => match us, hl with | [_, _], _ => rfl
  have F40 := fun_mk (st := topS 51) l40 b40 k40
  have B40 := F40.binds (ps := ["text"]) fun _ _ _ _ _ _ us hl => match us, hl with | [_], _ => rfl
  have F41 := fun_mk (st := topS 35) l41 b41 k41
  have B41 := F41.binds (ps := ["thing"]) fun _ _ _ _ _ _ us hl => match us, hl with | [_], _ => rfl
  have F42 := fun_mk (st := topS 59) l42 b42 k42
  have B42 := F42.binds (ps := ["line", "tongue", "names"]) fun _ _ _ _ _ _ us hl => match us, hl with | [_, _, _], _ => rfl
  have F43 := fun_mk (st := topS 36) l43 b43 k43
  have B43 := F43.binds (ps := ["thing"]) fun _ _ _ _ _ _ us hl => match us, hl with | [_], _ => rfl
  have F44 := fun_mk (st := topS 60) l44 b44 k44
  have B44 := F44.binds (ps := ["text"]) fun _ _ _ _ _ _ us hl => match us, hl with | [_], _ => rfl
  have F45 := fun_mk (st := topS 74) l45 b45 k45
  have B45 := F45.binds (ps := ["_law_book_here"]) fun _ _ _ _ _ _ us hl => match us, hl with | [_], _ => rfl
  have F46 := fun_mk (st := topS 75) l46 b46 k46
  have B46 := F46.binds (ps := ["_law_script"]) fun _ _ _ _ _ _ us hl => match us, hl with | [_], _ => rfl
  obtain ⟨cl, e_NoBook, e_NoLine, e_NoQuote, e_NoShape, e_TooHeavy⟩ : ∃ cl : Str → Addr, cl "NoBook" = c_NoBook ∧ cl "NoLine" = c_NoLine ∧ cl "NoQuote" = c_NoQuote ∧ cl "NoShape" = c_NoShape ∧ cl "TooHeavy" = c_TooHeavy := ⟨fun s => if s = "NoBook" then c_NoBook else (if s = "NoLine" then c_NoLine else (if s = "NoQuote" then c_NoQuote else (if s = "NoShape" then c_NoShape else (if s = "TooHeavy" then c_TooHeavy else (0))))), if_pos rfl, (if_neg (by decide)).trans (if_pos rfl), (if_neg (by decide)).trans ((if_neg (by decide)).trans (if_pos rfl)), (if_neg (by decide)).trans ((if_neg (by decide)).trans ((if_neg (by decide)).trans (if_pos rfl))), (if_neg (by decide)).trans ((if_neg (by decide)).trans ((if_neg (by decide)).trans ((if_neg (by decide)).trans (if_pos rfl))))⟩
  subst e_NoBook
  subst e_NoLine
  subst e_NoQuote
  subst e_NoShape
  subst e_TooHeavy
  have ec_NoBook : ExcC K (cl "NoBook") := ⟨cg_NoBook, ch_NoBook, cb_NoBook, cd_NoBook, cc_NoBook, cn, cx, cm_NoBook⟩
  have ec_NoQuote : ExcC K (cl "NoQuote") := ⟨cg_NoQuote, ch_NoQuote, cb_NoQuote, cd_NoQuote, cc_NoQuote, cn, cx, cm_NoQuote⟩
  have ec_NoShape : ExcC K (cl "NoShape") := ⟨cg_NoShape, ch_NoShape, cb_NoShape, cd_NoShape, cc_NoShape, cn, cx, cm_NoShape⟩
  have ec_TooHeavy : ExcC K (cl "TooHeavy") := ⟨cg_TooHeavy, ch_TooHeavy, cb_TooHeavy, cd_TooHeavy, cc_TooHeavy, cn, cx, cm_TooHeavy⟩
  exact ⟨PySem.W.fnOf "law" "law" (defArgs (topS 75)) (defBody (topS 75)) (defScope (topS 75)) .none kV46 dc46 pm46 an46 cd46 ct46, fun s v => .of_eq rfl, fun base _ _ => 
    law_ok (G := ⟨K, cl⟩) (all_ok (P := l.prog) (w := w) (base := base) (K := K) (mg := mg) cl (PySem.W.mg_none_of X Gn z_abs) (PySem.W.mg_none_of X Gn z_all) (PySem.W.mg_none_of X Gn z_bool) (PySem.W.mg_none_of X Gn z_enumerate) (PySem.W.mg_none_of X Gn z_int) (PySem.W.mg_none_of X Gn z_isinstance) (PySem.W.mg_none_of X Gn z_len) (PySem.W.mg_none_of X Gn z_list) (PySem.W.mg_none_of X Gn z_range) (PySem.W.mg_none_of X Gn z_str) (PySem.W.mg_none_of X Gn z_sum) (PySem.W.mg_none_of X Gn z_tuple) (PySem.W.mg_none_of X Gn z_zip) (glI_of X Gn g_DEEPEST (by decide +kernel)) (glS_of X Gn g_FIGURES (by decide +kernel)) (glS_of X Gn g_LETTERS_books (by decide +kernel)) (glS_of X Gn g_LETTERS_booktexts (by decide +kernel)) (glI_of X Gn g_MOST_IN (by decide +kernel)) (glI_of X Gn g_MOST_LETTERS (by decide +kernel)) (glI_of X Gn g_MOST_PARTS (by decide +kernel)) (glI_of X Gn g_MOST_RULES (by decide +kernel)) (glI_of X Gn g_MOST_SIGNS (by decide +kernel)) (glI_of X Gn g_MOST_TIMES (by decide +kernel)) (glI_of X Gn g_MOST_WEIGHT (by decide +kernel)) (glS_of X Gn g_SIGNS (by decide +kernel)) ⟨PySem.W.mg_of X Gn ca_NoBook, cq_NoBook, ck_NoBook, cb_NoBook, ct_NoBook, ec_NoBook⟩ ⟨PySem.W.mg_of X Gn ca_NoQuote, cq_NoQuote, ck_NoQuote, cb_NoQuote, ct_NoQuote, ec_NoQuote⟩ ⟨PySem.W.mg_of X Gn ca_NoShape, cq_NoShape, ck_NoShape, cb_NoShape, ct_NoShape, ec_NoShape⟩ ⟨PySem.W.mg_of X Gn ca_TooHeavy, cq_TooHeavy, ck_TooHeavy, cb_TooHeavy, ct_TooHeavy, ec_TooHeavy⟩ (PySem.W.mg_of X Gn ca_NoQuote) (PySem.W.mg_of X Gn ca_NoShape) (exH_cons (by show PySem.W.exmOne K _ (clU cl "NoQuote") = _; rw [clU_own (by decide)]; exact PySem.W.exm_ref hb_NoQuote hd_NoQuote ht_NoQuote h_NoBook_NoQuote) (exH_cons (by show PySem.W.exmOne K _ (clU cl "NoShape") = _; rw [clU_own (by decide)]; exact PySem.W.exm_ref hb_NoShape hd_NoShape ht_NoShape h_NoBook_NoShape) (exH_cons (by show PySem.W.exmOne K _ (clU cl "NoQuote") = _; rw [clU_own (by decide)]; exact PySem.W.exm_ref hb_NoQuote hd_NoQuote ht_NoQuote h_NoLine_NoQuote) (exH_cons (by show PySem.W.exmOne K _ (clU cl "NoShape") = _; rw [clU_own (by decide)]; exact PySem.W.exm_ref hb_NoShape hd_NoShape ht_NoShape h_NoLine_NoShape) (exH_cons (by show PySem.W.exmOne K _ (clU cl "NoQuote") = _; rw [clU_own (by decide)]; exact PySem.W.exm_ref hb_NoQuote hd_NoQuote ht_NoQuote h_NoQuote_NoQuote) (exH_cons (by show PySem.W.exmOne K _ (clU cl "NoShape") = _; rw [clU_own (by decide)]; exact PySem.W.exm_ref hb_NoShape hd_NoShape ht_NoShape h_NoQuote_NoShape) (exH_cons (by show PySem.W.exmOne K _ (clU cl "NoQuote") = _; rw [clU_own (by decide)]; exact PySem.W.exm_ref hb_NoQuote hd_NoQuote ht_NoQuote h_NoShape_NoQuote) (exH_cons (by show PySem.W.exmOne K _ (clU cl "NoShape") = _; rw [clU_own (by decide)]; exact PySem.W.exm_ref hb_NoShape hd_NoShape ht_NoShape h_NoShape_NoShape) (exH_cons (by show PySem.W.exmOne K _ (clU cl "NoQuote") = _; rw [clU_own (by decide)]; exact PySem.W.exm_ref hb_NoQuote hd_NoQuote ht_NoQuote h_TooHeavy_NoQuote) (exH_cons (by show PySem.W.exmOne K _ (clU cl "NoShape") = _; rw [clU_own (by decide)]; exact PySem.W.exm_ref hb_NoShape hd_NoShape ht_NoShape h_TooHeavy_NoShape) (exH_nil))))))))))) ⟨_, _, F0, PySem.W.mg_of X Gn a0, B0⟩ ⟨_, _, F1, PySem.W.mg_of X Gn a1, B1⟩ ⟨_, _, F2, PySem.W.mg_of X Gn a2, B2⟩ ⟨_, _, F3, PySem.W.mg_of X Gn a3, B3⟩ ⟨_, _, F4, PySem.W.mg_of X Gn a4, B4⟩ ⟨_, _, F5, PySem.W.mg_of X Gn a5, B5⟩ ⟨_, _, F6, PySem.W.mg_of X Gn a6, B6⟩ ⟨_, _, F7, PySem.W.mg_of X Gn a7, B7⟩ ⟨_, _, F8, PySem.W.mg_of X Gn a8, B8⟩ ⟨_, _, F9, PySem.W.mg_of X Gn a9, B9⟩ ⟨_, _, F10, PySem.W.mg_of X Gn a10, B10⟩ ⟨_, _, F11, PySem.W.mg_of X Gn a11, B11⟩ ⟨_, _, F12, PySem.W.mg_of X Gn a12, B12⟩ ⟨_, _, F13, PySem.W.mg_of X Gn a13, B13⟩ ⟨_, _, F14, PySem.W.mg_of X Gn a14, B14⟩ ⟨_, _, F15, PySem.W.mg_of X Gn a15, B15⟩ ⟨_, _, F16, PySem.W.mg_of X Gn a16, B16⟩ ⟨_, _, F17, PySem.W.mg_of X Gn a17, B17⟩ ⟨_, _, F18, PySem.W.mg_of X Gn a18, B18⟩ ⟨_, _, F19, PySem.W.mg_of X Gn a19, B19⟩ ⟨_, _, F20, PySem.W.mg_of X Gn a20, B20⟩ ⟨_, _, F21, PySem.W.mg_of X Gn a21, B21⟩ ⟨_, _, F22, PySem.W.mg_of X Gn a22, B22⟩ ⟨_, _, F23, PySem.W.mg_of X Gn a23, B23⟩ ⟨_, _, F24, PySem.W.mg_of X Gn a24, B24⟩ ⟨_, _, F25, PySem.W.mg_of X Gn a25, B25⟩ ⟨_, _, F26, PySem.W.mg_of X Gn a26, B26⟩ ⟨_, _, F27, PySem.W.mg_of X Gn a27, B27⟩ ⟨_, _, F28, PySem.W.mg_of X Gn a28, B28⟩ ⟨_, _, F29, PySem.W.mg_of X Gn a29, B29⟩ ⟨_, _, F30, PySem.W.mg_of X Gn a30, B30⟩ ⟨_, _, F31, PySem.W.mg_of X Gn a31, B31⟩ ⟨_, _, F32, PySem.W.mg_of X Gn a32, B32⟩ ⟨_, _, F33, PySem.W.mg_of X Gn a33, B33⟩ ⟨_, _, F34, PySem.W.mg_of X Gn a34, B34⟩ ⟨_, _, F35, PySem.W.mg_of X Gn a35, B35⟩ ⟨_, _, F36, PySem.W.mg_of X Gn a36, B36⟩ ⟨_, _, F37, PySem.W.mg_of X Gn a37, B37⟩ ⟨_, _, F38, PySem.W.mg_of X Gn a38, B38⟩ ⟨_, _, F39, PySem.W.mg_of X Gn a39, B39⟩ ⟨_, _, F40, PySem.W.mg_of X Gn a40, B40⟩ ⟨_, _, F41, PySem.W.mg_of X Gn a41, B41⟩ ⟨_, _, F42, PySem.W.mg_of X Gn a42, B42⟩ ⟨_, _, F43, PySem.W.mg_of X Gn a43, B43⟩ ⟨_, _, F44, PySem.W.mg_of X Gn a44, B44⟩ ⟨_, _, F45, PySem.W.mg_of X Gn a45, B45⟩ F46) law_true⟩
end NR
open PySem PySem.W PyProof.Rows
set_option maxHeartbeats 0 in
theorem PySem.Challenge.cw_nearreach_k80_books_written_holds : PySem.Challenge.rw_nearreach_k80_books_written.Holds := by
  w_on; o_law; k_head; (case hw => w_witness2)
  k_fill
  refine L2.walk_of (l := PySem.Challenge.rw_nearreach_k80_books_written) (n := 63) (k := 34) (x := "_law_script") (CX := fun w => L2.CX (PySem.Challenge.rw_nearreach_k80_books_written).prog w) (sp := fun w => NR.spLaw ⟨_, fun _ => 0⟩ NR.m_law) rfl (by decide) rfl ⟨rfl, by decide, by decide⟩ (fun w h Y => PySem.W.kIn_of Y) ?F (fun _ H a ns hl ho hS => ⟨a, ns, rfl, hl, ho, hS, fun _ => rfl⟩) (fun w H s e s' hx => NR.cx_no hx)
  case F =>
    intro w mg fa h KX G hmg
    refine' NR.all_mk KX G hmg ?z_abs ?z_all ?z_bool ?z_enumerate ?z_int ?z_isinstance ?z_len ?z_list ?z_range ?z_str ?z_sum ?z_tuple ?z_zip ?g_DEEPEST ?g_FIGURES ?g_LETTERS_books ?g_LETTERS_booktexts ?g_MOST_IN ?g_MOST_LETTERS ?g_MOST_PARTS ?g_MOST_RULES ?g_MOST_SIGNS ?g_MOST_TIMES ?g_MOST_WEIGHT ?g_SIGNS ?ca_NoBook ?ca_NoLine ?ca_NoQuote ?ca_NoShape ?ca_TooHeavy ?cq_NoBook ?ck_NoBook ?cb_NoBook ?ct_NoBook ?cg_NoBook ?ch_NoBook ?cd_NoBook ?cc_NoBook ?cm_NoBook ?cq_NoQuote ?ck_NoQuote ?cb_NoQuote ?ct_NoQuote ?cg_NoQuote ?ch_NoQuote ?cd_NoQuote ?cc_NoQuote ?cm_NoQuote ?cq_NoShape ?ck_NoShape ?cb_NoShape ?ct_NoShape ?cg_NoShape ?ch_NoShape ?cd_NoShape ?cc_NoShape ?cm_NoShape ?cq_TooHeavy ?ck_TooHeavy ?cb_TooHeavy ?ct_TooHeavy ?cg_TooHeavy ?ch_TooHeavy ?cd_TooHeavy ?cc_TooHeavy ?cm_TooHeavy ?cn ?cx ?hb_NoQuote ?hd_NoQuote ?ht_NoQuote ?hb_NoShape ?hd_NoShape ?ht_NoShape ?h_NoBook_NoQuote ?h_NoBook_NoShape ?h_NoLine_NoQuote ?h_NoLine_NoShape ?h_NoQuote_NoQuote ?h_NoQuote_NoShape ?h_NoShape_NoQuote ?h_NoShape_NoShape ?h_TooHeavy_NoQuote ?h_TooHeavy_NoShape ?a0 ?l0 ?b0 ?k0 ?a1 ?l1 ?b1 ?k1 ?a2 ?l2 ?b2 ?k2 ?a3 ?l3 ?b3 ?k3 ?a4 ?l4 ?b4 ?k4 ?a5 ?l5 ?b5 ?k5 ?a6 ?l6 ?b6 ?k6 ?a7 ?l7 ?b7 ?k7 ?a8 ?l8 ?b8 ?k8 ?a9 ?l9 ?b9 ?k9 ?a10 ?l10 ?b10 ?k10 ?a11 ?l11 ?b11 ?k11 ?a12 ?l12 ?b12 ?k12 ?a13 ?l13 ?b13 ?k13 ?a14 ?l14 ?b14 ?k14 ?a15 ?l15 ?b15 ?k15 ?a16 ?l16 ?b16 ?k16 ?a17 ?l17 ?b17 ?k17 ?a18 ?l18 ?b18 ?k18 ?a19 ?l19 ?b19 ?k19 ?a20 ?l20 ?b20 ?k20 ?a21 ?l21 ?b21 ?k21 ?a22 ?l22 ?b22 ?k22 ?a23 ?l23 ?b23 ?k23 ?a24 ?l24 ?b24 ?k24 ?a25 ?l25 ?b25 ?k25 ?a26 ?l26 ?b26 ?k26 ?a27 ?l27 ?b27 ?k27 ?a28 ?l28 ?b28 ?k28 ?a29 ?l29 ?b29 ?k29 ?a30 ?l30 ?b30 ?k30 ?a31 ?l31 ?b31 ?k31 ?a32 ?l32 ?b32 ?k32 ?a33 ?l33 ?b33 ?k33 ?a34 ?l34 ?b34 ?k34 ?a35 ?l35 ?b35 ?k35 ?a36 ?l36 ?b36 ?k36 ?a37 ?l37 ?b37 ?k37 ?a38 ?l38 ?b38 ?k38 ?a39 ?l39 ?b39 ?k39 ?a40 ?l40 ?b40 ?k40 ?a41 ?l41 ?b41 ?k41 ?a42 ?l42 ?b42 ?k42 ?a43 ?l43 ?b43 ?k43 ?a44 ?l44 ?b44 ?k44 ?a45 ?l45 ?b45 ?k45 ?a46 ?l46 ?b46 ?k46
    (case z_abs => k_is)
    (case z_all => k_is)
    (case z_bool => k_is)
    (case z_enumerate => k_is)
    (case z_int => k_is)
    (case z_isinstance => k_is)
    (case z_len => k_is)
    (case z_list => k_is)
    (case z_range => k_is)
    (case z_str => k_is)
    (case z_sum => k_is)
    (case z_tuple => k_is)
    (case z_zip => k_is)
    (case g_DEEPEST => exact ⟨_, by k_is⟩)
    (case g_FIGURES => exact ⟨_, by k_is⟩)
    (case g_LETTERS_books => exact ⟨_, by k_is⟩)
    (case g_LETTERS_booktexts => exact ⟨_, by k_is⟩)
    (case g_MOST_IN => exact ⟨_, by k_is⟩)
    (case g_MOST_LETTERS => exact ⟨_, by k_is⟩)
    (case g_MOST_PARTS => exact ⟨_, by k_is⟩)
    (case g_MOST_RULES => exact ⟨_, by k_is⟩)
    (case g_MOST_SIGNS => exact ⟨_, by k_is⟩)
    (case g_MOST_TIMES => exact ⟨_, by k_is⟩)
    (case g_MOST_WEIGHT => exact ⟨_, by k_is⟩)
    (case g_SIGNS => exact ⟨_, by k_is⟩)
    (case ca_NoBook => k_is)
    (case ca_NoLine => k_is)
    (case ca_NoQuote => k_is)
    (case ca_NoShape => k_is)
    (case ca_TooHeavy => k_is)
    (case cq_NoBook => k_exc)
    (case ck_NoBook => k_is)
    (case cb_NoBook => k_is)
    (case ct_NoBook => k_is)
    (case cg_NoBook => k_is)
    (case ch_NoBook => k_is)
    (case cd_NoBook => k_is)
    (case cc_NoBook => k_is)
    (case cm_NoBook => k_is)
    (case cq_NoQuote => k_exc)
    (case ck_NoQuote => k_is)
    (case cb_NoQuote => k_is)
    (case ct_NoQuote => k_is)
    (case cg_NoQuote => k_is)
    (case ch_NoQuote => k_is)
    (case cd_NoQuote => k_is)
    (case cc_NoQuote => k_is)
    (case cm_NoQuote => k_is)
    (case cq_NoShape => k_exc)
    (case ck_NoShape => k_is)
    (case cb_NoShape => k_is)
    (case ct_NoShape => k_is)
    (case cg_NoShape => k_is)
    (case ch_NoShape => k_is)
    (case cd_NoShape => k_is)
    (case cc_NoShape => k_is)
    (case cm_NoShape => k_is)
    (case cq_TooHeavy => k_exc)
    (case ck_TooHeavy => k_is)
    (case cb_TooHeavy => k_is)
    (case ct_TooHeavy => k_is)
    (case cg_TooHeavy => k_is)
    (case ch_TooHeavy => k_is)
    (case cd_TooHeavy => k_is)
    (case cc_TooHeavy => k_is)
    (case cm_TooHeavy => k_is)
    (case cn => k_is)
    (case cx => k_is)
    (case hb_NoQuote => k_is)
    (case hd_NoQuote => k_is)
    (case ht_NoQuote => k_is)
    (case hb_NoShape => k_is)
    (case hd_NoShape => k_is)
    (case ht_NoShape => k_is)
    (case h_NoBook_NoQuote => first | rfl | k_is)
    (case h_NoBook_NoShape => first | rfl | k_is)
    (case h_NoLine_NoQuote => first | rfl | k_is)
    (case h_NoLine_NoShape => first | rfl | k_is)
    (case h_NoQuote_NoQuote => first | rfl | k_is)
    (case h_NoQuote_NoShape => first | rfl | k_is)
    (case h_NoShape_NoQuote => first | rfl | k_is)
    (case h_NoShape_NoShape => first | rfl | k_is)
    (case h_TooHeavy_NoQuote => first | rfl | k_is)
    (case h_TooHeavy_NoShape => first | rfl | k_is)
    (case a0 => k_is)
    (case l0 => k_is)
    (case b0 => k_is)
    (case k0 => k_is)
    (case a1 => k_is)
    (case l1 => k_is)
    (case b1 => k_is)
    (case k1 => k_is)
    (case a2 => k_is)
    (case l2 => k_is)
    (case b2 => k_is)
    (case k2 => k_is)
    (case a3 => k_is)
    (case l3 => k_is)
    (case b3 => k_is)
    (case k3 => k_is)
    (case a4 => k_is)
    (case l4 => k_is)
    (case b4 => k_is)
    (case k4 => k_is)
    (case a5 => k_is)
    (case l5 => k_is)
    (case b5 => k_is)
    (case k5 => k_is)
    (case a6 => k_is)
    (case l6 => k_is)
    (case b6 => k_is)
    (case k6 => k_is)
    (case a7 => k_is)
    (case l7 => k_is)
    (case b7 => k_is)
    (case k7 => k_is)
    (case a8 => k_is)
    (case l8 => k_is)
    (case b8 => k_is)
    (case k8 => k_is)
    (case a9 => k_is)
    (case l9 => k_is)
    (case b9 => k_is)
    (case k9 => k_is)
    (case a10 => k_is)
    (case l10 => k_is)
    (case b10 => k_is)
    (case k10 => k_is)
    (case a11 => k_is)
    (case l11 => k_is)
    (case b11 => k_is)
    (case k11 => k_is)
    (case a12 => k_is)
    (case l12 => k_is)
    (case b12 => k_is)
    (case k12 => k_is)
    (case a13 => k_is)
    (case l13 => k_is)
    (case b13 => k_is)
    (case k13 => k_is)
    (case a14 => k_is)
    (case l14 => k_is)
    (case b14 => k_is)
    (case k14 => k_is)
    (case a15 => k_is)
    (case l15 => k_is)
    (case b15 => k_is)
    (case k15 => k_is)
    (case a16 => k_is)
    (case l16 => k_is)
    (case b16 => k_is)
    (case k16 => k_is)
    (case a17 => k_is)
    (case l17 => k_is)
    (case b17 => k_is)
    (case k17 => k_is)
    (case a18 => k_is)
    (case l18 => k_is)
    (case b18 => k_is)
    (case k18 => k_is)
    (case a19 => k_is)
    (case l19 => k_is)
    (case b19 => k_is)
    (case k19 => k_is)
    (case a20 => k_is)
    (case l20 => k_is)
    (case b20 => k_is)
    (case k20 => k_is)
    (case a21 => k_is)
    (case l21 => k_is)
    (case b21 => k_is)
    (case k21 => k_is)
    (case a22 => k_is)
    (case l22 => k_is)
    (case b22 => k_is)
    (case k22 => k_is)
    (case a23 => k_is)
    (case l23 => k_is)
    (case b23 => k_is)
    (case k23 => k_is)
    (case a24 => k_is)
    (case l24 => k_is)
    (case b24 => k_is)
    (case k24 => k_is)
    (case a25 => k_is)
    (case l25 => k_is)
    (case b25 => k_is)
    (case k25 => k_is)
    (case a26 => k_is)
    (case l26 => k_is)
    (case b26 => k_is)
    (case k26 => k_is)
    (case a27 => k_is)
    (case l27 => k_is)
    (case b27 => k_is)
    (case k27 => k_is)
    (case a28 => k_is)
    (case l28 => k_is)
    (case b28 => k_is)
    (case k28 => k_is)
    (case a29 => k_is)
    (case l29 => k_is)
    (case b29 => k_is)
    (case k29 => k_is)
    (case a30 => k_is)
    (case l30 => k_is)
    (case b30 => k_is)
    (case k30 => k_is)
    (case a31 => k_is)
    (case l31 => k_is)
    (case b31 => k_is)
    (case k31 => k_is)
    (case a32 => k_is)
    (case l32 => k_is)
    (case b32 => k_is)
    (case k32 => k_is)
    (case a33 => k_is)
    (case l33 => k_is)
    (case b33 => k_is)
    (case k33 => k_is)
    (case a34 => k_is)
    (case l34 => k_is)
    (case b34 => k_is)
    (case k34 => k_is)
    (case a35 => k_is)
    (case l35 => k_is)
    (case b35 => k_is)
    (case k35 => k_is)
    (case a36 => k_is)
    (case l36 => k_is)
    (case b36 => k_is)
    (case k36 => k_is)
    (case a37 => k_is)
    (case l37 => k_is)
    (case b37 => k_is)
    (case k37 => k_is)
    (case a38 => k_is)
    (case l38 => k_is)
    (case b38 => k_is)
    (case k38 => k_is)
    (case a39 => k_is)
    (case l39 => k_is)
    (case b39 => k_is)
    (case k39 => k_is)
    (case a40 => k_is)
    (case l40 => k_is)
    (case b40 => k_is)
    (case k40 => k_is)
    (case a41 => k_is)
    (case l41 => k_is)
    (case b41 => k_is)
    (case k41 => k_is)
    (case a42 => k_is)
    (case l42 => k_is)
    (case b42 => k_is)
    (case k42 => k_is)
    (case a43 => k_is)
    (case l43 => k_is)
    (case b43 => k_is)
    (case k43 => k_is)
    (case a44 => k_is)
    (case l44 => k_is)
    (case b44 => k_is)
    (case k44 => k_is)
    (case a45 => k_is)
    (case l45 => k_is)
    (case b45 => k_is)
    (case k45 => k_is)
    (case a46 => k_is)
    (case l46 => k_is)
    (case b46 => k_is)
    (case k46 => k_is)
