import PyProof.Rows.All
import Wide.All
import OpenK.AllK
import Wide.FinOn
import HandS.ForMost
import HandS.ForExc
import HandS.Wide
import HandS.IsInst
import HandS.TupAny
import HandS.TupMul
import HandS.Style
import PyProof.StrOps2
import KE.DataEq
import HandS.NoneIn
import PyProof.ListStr
import PyProof.TupleOfStr
import HandS.Replace
import HandS.ExcIs
import HandS.SortInts
import HandS.WideMore
import KE.GoesNew
import KE.GoesEnumKw
import KE.DataCmp
import HandS.StrMore
import HandS.Deep
import PyProof.StrLawsLast
import HandS.RevRange
import PyProof.Rows.SetFrom
import PyProof.WalksMore
import PyProof.WalkInts
import PyProof.SeqI3
import HandS.HotCalls
import HandS.WideBits
import PySem.Challenge.RW_nearreach_k03_numbers_of_words
set_option Elab.async false
set_option linter.all false
set_option maxRecDepth 100000
/-! The core: values as trees, mutable cells, what a reading does as a function. -/
namespace NR
open PySem PySem.Spec PyProof.Rows L2

abbrev DKey := Sum Int (List Nat)
/-- a value: a tree, or the number of a mutable cell -/
inductive D where
  | non | bl (b : Bool) | int (i : Int) | str (s : List Nat) | tup (l : List D) | ref (n : Nat) | exc (a : Nat)
  /-- a list, a dict that is never written any more -/
  | fl (l : List D) | fd (ks : List (Sum Int (List Nat))) (l : List D)
/-- a mutable cell -/
inductive Cell where
  | lst (xs : List D)
  | frz (xs : List D)
  | dk (kvs : List (DKey × D))
  | dt (kvs : List (List DKey × D))
  | ins (c : Str) (fs : List (Str × D))
abbrev IH := List Cell
abbrev EV := List (Option D)
/-- the written part, the classes by their names -/
structure Cf where
  K : PySem.W.Frag
  C : Str → Addr

def strV (s : List Nat) : Str := ⟨s.toArray⟩
def keyV : DKey → Key
  | .inl i => .inl i
  | .inr s => .inr (strV s)
theorem strV_inj {a b : List Nat} (h : strV a = strV b) : a = b := by
  have := congrArg (fun s : Str => s.cps.toList) h
  simpa [strV] using this
theorem strV_toList (s : Str) : strV s.cps.toList = s := by
  cases s; simp [strV]
theorem strV_length (s : List Nat) : (strV s).length = s.length := by
  show (strV s).cps.size = _
  simp [strV]

/-- a list that is never written -/
def FrzL (K : PySem.W.Frag) (H : Hp) (a : Addr) (xs : List V) : Prop :=
  (∃ o, H a = some (.frz o (.lst xs))) ∨
    ∃ (o : Obj) (its : Array Value) (n : Nat), K.lookup a = some o ∧ o.cls = .type "list" ∧ o.dict = none ∧ o.data = .seq its n ∧ its.size ≤ sizeLine ∧ Vals xs its.toList
/-- a list that is locked -/
def FrzM (H : Hp) (a : Addr) (xs : List V) : Prop := ∃ o, H a = some (.frz o (.lst xs))
/-- a dict that is never written -/
def FrzD (H : Hp) (a : Addr) (ws : List (Key × V)) : Prop := ∃ o, H a = some (.frz o (.dK ws))

/-- a tuple that stands in the heap -/
def TpT (H : Hp) (a : Addr) (vs : List V) : Prop := H a = some (.tup vs)

mutual
def Den (G : Cf) (et : List Addr) (H : Hp) : D → V → Prop
  | .non, v => v = .non
  | .bl b, v => v = .bl b
  | .int i, v => v = .int i
  | .str s, v => v = .str (strV s)
  | .tup l, v => ∃ a vs, v = .ref a ∧ TpT H a vs ∧ DenL G et H l vs
  | .ref n, v => ∃ a, et[n]? = some a ∧ v = .ref a
  | .exc a, v => v = .ref a
  | .fl l, v => ∃ a vs, v = .ref a ∧ FrzM H a vs ∧ DenL G et H l vs
  | .fd ks l, v => ∃ a ws, v = .ref a ∧ FrzD H a ws ∧ ws.map (·.1) = ks.map keyV ∧ DenL G et H l (ws.map (·.2))
def DenL (G : Cf) (et : List Addr) (H : Hp) : List D → List V → Prop
  | [], vs => vs = []
  | d :: ds, vs => ∃ v ws, vs = v :: ws ∧ Den G et H d v ∧ DenL G et H ds ws
end

mutual
def D.lo (n : Nat) : D → Bool
  | .tup l => D.loL n l
  | .fl l => D.loL n l
  | .fd _ l => D.loL n l
  | .ref m => decide (m < n)
  | _ => true
def D.loL (n : Nat) : List D → Bool
  | [] => true
  | d :: ds => D.lo n d && D.loL n ds
end

/-- what never changes stays -/
def Ext (H H' : Hp) : Prop := ∀ a o, H a = some o → ¬ Mut (some o) → H' a = some o
theorem Ext.refl (H : Hp) : Ext H H := fun _ _ h _ => h
theorem Ext.trans {H H1 H2 : Hp} (a : Ext H H1) (b : Ext H1 H2) : Ext H H2 := fun x o h m => b x o (a x o h m) m
theorem Ext.new {H : Hp} {p : Addr} {o : HO} (h : H p = none) : Ext H (upd H p o) := fun a u e _ => by
  rw [upd_ne (ne_of_none e h)]
  exact e
theorem Ext.mut {H : Hp} {p : Addr} {o u : HO} (h : H p = some u) (m : Mut (some u)) : Ext H (upd H p o) := fun a w e nm => by
  have : a ≠ p := fun z => by
    subst z
    rw [h] at e
    cases e
    exact nm m
  rw [upd_ne this]
  exact e
theorem Ext.sqT {K : PySem.W.Frag} {H H' : Hp} {a : Addr} {vs : List V} (e : Ext H H') (h : SqT K H a vs) : SqT K H' a vs := by
  rcases h with (h | ⟨o, h⟩) | h
  · exact .inl (.inl (e _ _ h (fun z => z)))
  · exact .inl (.inr ⟨o, e _ _ h (fun z => z)⟩)
  · exact .inr h

theorem TpT.ext {H H' : Hp} {a : Addr} {vs : List V} (e : Ext H H') (h : TpT H a vs) : TpT H' a vs := e _ _ h (fun z => z)
theorem TpT.sq {K : PySem.W.Frag} {H : Hp} {a : Addr} {vs : List V} (h : TpT H a vs) : SqT K H a vs := .inl (.inl h)
instance {K : PySem.W.Frag} {H : Hp} {a : Addr} {vs : List V} : Coe (TpT H a vs) (SqT K H a vs) := ⟨TpT.sq⟩
theorem FrzL.sq {K : PySem.W.Frag} {H : Hp} {a : Addr} {xs : List V} (h : FrzL K H a xs) : SqL K H a xs := by
  rcases h with ⟨o, h⟩ | h
  · exact .inl (.inr ⟨o, h⟩)
  · exact .inr h
theorem FrzL.ext {K : PySem.W.Frag} {H H' : Hp} {a : Addr} {xs : List V} (e : Ext H H') (h : FrzL K H a xs) : FrzL K H' a xs := by
  rcases h with ⟨o, h⟩ | h
  · exact .inl ⟨o, e _ _ h (fun z => z)⟩
  · exact .inr h

theorem FrzM.ext {H H' : Hp} {a : Addr} {ws : List V} (e : Ext H H') (h : FrzM H a ws) : FrzM H' a ws := by
  obtain ⟨o, h⟩ := h
  exact ⟨o, e _ _ h (fun z => z)⟩
theorem FrzM.rd {H : Hp} {a : Addr} {ws : List V} (h : FrzM H a ws) : Rd H a (.lst ws) := .inr h
theorem FrzM.sq {K : PySem.W.Frag} {H : Hp} {a : Addr} {ws : List V} (h : FrzM H a ws) : SqL K H a ws := .inl (.inr h)
theorem FrzM.frz {K : PySem.W.Frag} {H : Hp} {a : Addr} {ws : List V} (h : FrzM H a ws) : FrzL K H a ws := .inl h
theorem FrzD.ext {H H' : Hp} {a : Addr} {ws : List (Key × V)} (e : Ext H H') (h : FrzD H a ws) : FrzD H' a ws := by
  obtain ⟨o, h⟩ := h
  exact ⟨o, e _ _ h (fun z => z)⟩

mutual
theorem Den.mono {G : Cf} {et et' : List Addr} {H H' : Hp} (p : et <+: et') (e : Ext H H') : ∀ {d : D} {v : V}, Den G et H d v → Den G et' H' d v
  | .non, _, h => h
  | .bl _, _, h => h
  | .int _, _, h => h
  | .str _, _, h => h
  | .exc _, _, h => h
  | .tup l, _, h => by
    simp only [Den] at h ⊢
    obtain ⟨a, vs, e1, h1, h2⟩ := h
    exact ⟨a, vs, e1, h1.ext e, DenL.mono p e h2⟩
  | .fl l, _, h => by
    simp only [Den] at h ⊢
    obtain ⟨a, vs, e1, h1, h2⟩ := h
    exact ⟨a, vs, e1, h1.ext e, DenL.mono p e h2⟩
  | .fd ks l, _, h => by
    simp only [Den] at h ⊢
    obtain ⟨a, vs, e1, h1, h2, h3⟩ := h
    exact ⟨a, vs, e1, h1.ext e, h2, DenL.mono p e h3⟩
  | .ref n, _, h => by
    simp only [Den] at h ⊢
    obtain ⟨a, h1, h2⟩ := h
    obtain ⟨t, rfl⟩ := p
    refine ⟨a, ?_, h2⟩
    rw [List.getElem?_append_left]
    · exact h1
    · exact (List.getElem?_eq_some_iff.mp h1).1
theorem DenL.mono {G : Cf} {et et' : List Addr} {H H' : Hp} (p : et <+: et') (e : Ext H H') : ∀ {ds : List D} {vs : List V}, DenL G et H ds vs → DenL G et' H' ds vs
  | [], _, h => h
  | d :: ds, _, h => by
    simp only [DenL] at h ⊢
    obtain ⟨v, ws, e1, h1, h2⟩ := h
    exact ⟨v, ws, e1, Den.mono p e h1, DenL.mono p e h2⟩
end
mutual
theorem Den.back {G : Cf} {et et' : List Addr} {H : Hp} (p : et <+: et') : ∀ {d : D} {v : V}, D.lo et.length d = true → Den G et' H d v → Den G et H d v
  | .non, _, _, h => h
  | .bl _, _, _, h => h
  | .int _, _, _, h => h
  | .str _, _, _, h => h
  | .exc _, _, _, h => h
  | .tup l, _, b, h => by
    simp only [Den] at h ⊢
    obtain ⟨a, vs, e1, h1, h2⟩ := h
    exact ⟨a, vs, e1, h1, DenL.back p (by simpa [D.lo] using b) h2⟩
  | .fl l, _, b, h => by
    simp only [Den] at h ⊢
    obtain ⟨a, vs, e1, h1, h2⟩ := h
    exact ⟨a, vs, e1, h1, DenL.back p (by simpa [D.lo] using b) h2⟩
  | .fd ks l, _, b, h => by
    simp only [Den] at h ⊢
    obtain ⟨a, vs, e1, h1, h2, h3⟩ := h
    exact ⟨a, vs, e1, h1, h2, DenL.back p (by simpa [D.lo] using b) h3⟩
  | .ref n, _, b, h => by
    simp only [Den] at h ⊢
    obtain ⟨a, h1, h2⟩ := h
    obtain ⟨t, rfl⟩ := p
    have hn : n < et.length := by simpa [D.lo] using b
    refine ⟨a, ?_, h2⟩
    rw [List.getElem?_append_left hn] at h1
    exact h1
theorem DenL.back {G : Cf} {et et' : List Addr} {H : Hp} (p : et <+: et') : ∀ {ds : List D} {vs : List V}, D.loL et.length ds = true → DenL G et' H ds vs → DenL G et H ds vs
  | [], _, _, h => h
  | d :: ds, _, b, h => by
    simp only [DenL] at h ⊢
    obtain ⟨v, ws, e1, h1, h2⟩ := h
    simp only [D.loL, Bool.and_eq_true] at b
    exact ⟨v, ws, e1, Den.back p b.1 h1, DenL.back p b.2 h2⟩
end
mutual
/-- what is denoted refers only to cells that are there -/
theorem Den.lo {G : Cf} {et : List Addr} {H : Hp} : ∀ {d : D} {v : V}, Den G et H d v → D.lo et.length d = true
  | .non, _, _ => rfl
  | .bl _, _, _ => rfl
  | .int _, _, _ => rfl
  | .str _, _, _ => rfl
  | .exc _, _, _ => rfl
  | .tup l, _, h => by
    simp only [Den] at h
    obtain ⟨a, vs, e1, h1, h2⟩ := h
    simpa [D.lo] using DenL.lo h2
  | .fl l, _, h => by
    simp only [Den] at h
    obtain ⟨a, vs, e1, h1, h2⟩ := h
    simpa [D.lo] using DenL.lo h2
  | .fd ks l, _, h => by
    simp only [Den] at h
    obtain ⟨a, vs, e1, h1, h2, h3⟩ := h
    simpa [D.lo] using DenL.lo h3
  | .ref n, _, h => by
    simp only [Den] at h
    obtain ⟨a, h1, h2⟩ := h
    simpa [D.lo] using (List.getElem?_eq_some_iff.mp h1).1
theorem DenL.lo {G : Cf} {et : List Addr} {H : Hp} : ∀ {ds : List D} {vs : List V}, DenL G et H ds vs → D.loL et.length ds = true
  | [], _, _ => by simp [D.loL]
  | d :: ds, _, h => by
    simp only [DenL] at h
    obtain ⟨v, ws, e1, h1, h2⟩ := h
    simp [D.loL, Den.lo h1, DenL.lo h2]
end

/-- the pairs of a dict, of an instance -/
def DenK {κ κ' : Type} (f : κ → κ') (G : Cf) (et : List Addr) (H : Hp) (kvs : List (κ × D)) (ws : List (κ' × V)) : Prop :=
  ws.map (·.1) = kvs.map (fun p => f p.1) ∧ DenL G et H (kvs.map (·.2)) (ws.map (·.2))
theorem DenK.mono {κ κ' : Type} {f : κ → κ'} {G : Cf} {et et' : List Addr} {H H' : Hp} (p : et <+: et') (e : Ext H H') {kvs : List (κ × D)} {ws : List (κ' × V)} (h : DenK f G et H kvs ws) : DenK f G et' H' kvs ws := ⟨h.1, h.2.mono p e⟩

def CellOk (G : Cf) (et : List Addr) (H : Hp) (a : Addr) : Cell → Prop
  | .lst xs => ∃ vs, H a = some (.lst vs) ∧ DenL G et H xs vs
  | .frz xs => ∃ vs, FrzL G.K H a vs ∧ DenL G et H xs vs
  | .dk kvs => ∃ ws, H a = some (.dK ws) ∧ DenK keyV G et H kvs ws
  | .dt kvs => ∃ ws, H a = some (.dT ws) ∧ DenK (List.map keyV) G et H kvs ws
  | .ins c fs => ∃ dx ws, H a = some (.ins (G.C c) dx ws) ∧ DenK id G et H fs ws
def Cell.lo (n : Nat) : Cell → Bool
  | .lst xs => D.loL n xs
  | .frz xs => D.loL n xs
  | .dk kvs => D.loL n (kvs.map (·.2))
  | .dt kvs => D.loL n (kvs.map (·.2))
  | .ins _ fs => D.loL n (fs.map (·.2))
def Cell.isFrz : Cell → Bool
  | .frz _ => true
  | _ => false
structure HRel (G : Cf) (et : List Addr) (h : IH) (H : Hp) : Prop where
  len : et.length = h.length
  nd : ∀ (n m : Nat) (c c' : Cell) (a : Addr), h[n]? = some c → h[m]? = some c' → et[n]? = some a → et[m]? = some a → c.isFrz = false → c'.isFrz = false → n = m
  cell : ∀ (n : Nat) (c : Cell) (a : Addr), h[n]? = some c → et[n]? = some a → CellOk G et H a c

theorem CellOk.mono {G : Cf} {et et' : List Addr} {H H' : Hp} {a : Addr} (p : et <+: et') (e : Ext H H') (he : ∀ o, H a = some o → H' a = some o) {c : Cell} (h : CellOk G et H a c) : CellOk G et' H' a c := by
  cases c with
  | lst xs => obtain ⟨vs, h1, h2⟩ := h; exact ⟨vs, he _ h1, h2.mono p e⟩
  | frz xs => obtain ⟨vs, h1, h2⟩ := h; exact ⟨vs, h1.ext e, h2.mono p e⟩
  | dk kvs => obtain ⟨vs, h1, h2⟩ := h; exact ⟨vs, he _ h1, h2.mono p e⟩
  | dt kvs => obtain ⟨vs, h1, h2⟩ := h; exact ⟨vs, he _ h1, h2.mono p e⟩
  | ins c fs => obtain ⟨dx, vs, h1, h2⟩ := h; exact ⟨dx, vs, he _ h1, h2.mono p e⟩
theorem CellOk.back {G : Cf} {et et' : List Addr} {H : Hp} {a : Addr} (p : et <+: et') {c : Cell} (b : Cell.lo et.length c = true) (h : CellOk G et' H a c) : CellOk G et H a c := by
  cases c with
  | lst xs => obtain ⟨vs, h1, h2⟩ := h; exact ⟨vs, h1, h2.back p b⟩
  | frz xs => obtain ⟨vs, h1, h2⟩ := h; exact ⟨vs, h1, h2.back p b⟩
  | dk kvs => obtain ⟨vs, h1, h2⟩ := h; exact ⟨vs, h1, h2.1, h2.2.back p b⟩
  | dt kvs => obtain ⟨vs, h1, h2⟩ := h; exact ⟨vs, h1, h2.1, h2.2.back p b⟩
  | ins c fs => obtain ⟨dx, vs, h1, h2⟩ := h; exact ⟨dx, vs, h1, h2.1, h2.2.back p b⟩
theorem CellOk.lo {G : Cf} {et : List Addr} {H : Hp} {a : Addr} {c : Cell} (h : CellOk G et H a c) : Cell.lo et.length c = true := by
  cases c with
  | lst xs => obtain ⟨vs, h1, h2⟩ := h; exact h2.lo
  | frz xs => obtain ⟨vs, h1, h2⟩ := h; exact h2.lo
  | dk kvs => obtain ⟨vs, h1, h2⟩ := h; exact h2.2.lo
  | dt kvs => obtain ⟨vs, h1, h2⟩ := h; exact h2.2.lo
  | ins c fs => obtain ⟨dx, vs, h1, h2⟩ := h; exact h2.2.lo
/-- a cell stands in the heap, or is read only -/
theorem CellOk.some_or {G : Cf} {et : List Addr} {H : Hp} {a : Addr} {c : Cell} (h : CellOk G et H a c) : (∃ o, H a = some o) ∨ ∃ o, G.K.lookup a = some o := by
  cases c with
  | lst xs => obtain ⟨vs, h1, _⟩ := h; exact .inl ⟨_, h1⟩
  | frz xs =>
    obtain ⟨vs, ⟨o, h1⟩ | ⟨o, _, _, h1, _⟩, _⟩ := h
    · exact .inl ⟨_, h1⟩
    · exact .inr ⟨_, h1⟩
  | dk kvs => obtain ⟨vs, h1, _⟩ := h; exact .inl ⟨_, h1⟩
  | dt kvs => obtain ⟨vs, h1, _⟩ := h; exact .inl ⟨_, h1⟩
  | ins c fs => obtain ⟨dx, vs, h1, _⟩ := h; exact .inl ⟨_, h1⟩

section
variable {G : Cf} {et et' : List Addr} {H H' : Hp} {h h' : IH}
theorem HRel.addr (R : HRel G et h H) {n : Nat} {c : Cell} (e : h[n]? = some c) : ∃ a, et[n]? = some a := by
  have : n < h.length := (List.getElem?_eq_some_iff.mp e).1
  exact ⟨et[n]'(by rw [R.len]; exact this), List.getElem?_eq_getElem _⟩
theorem HRel.cellAt (R : HRel G et h H) {n : Nat} {a : Addr} (e : et[n]? = some a) : ∃ c, h[n]? = some c ∧ CellOk G et H a c := by
  have l : n < h.length := by rw [← R.len]; exact (List.getElem?_eq_some_iff.mp e).1
  exact ⟨h[n], List.getElem?_eq_getElem l, R.cell n _ a (List.getElem?_eq_getElem l) e⟩
theorem CellOk.there {a : Addr} {c : Cell} (f : c.isFrz = false) (x : CellOk G et H a c) : ∃ o, H a = some o := by
  cases c with
  | lst xs => obtain ⟨vs, h1, _⟩ := x; exact ⟨_, h1⟩
  | frz xs => cases f
  | dk kvs => obtain ⟨vs, h1, _⟩ := x; exact ⟨_, h1⟩
  | dt kvs => obtain ⟨vs, h1, _⟩ := x; exact ⟨_, h1⟩
  | ins c fs => obtain ⟨dx, vs, h1, _⟩ := x; exact ⟨_, h1⟩
/-- nothing of the cells is touched -/
theorem HRel.keep (R : HRel G et h H) (e : Ext H H') (k : ∀ (n : Nat) (a : Addr) (o : HO), et[n]? = some a → H a = some o → H' a = some o) : HRel G et h H' :=
  ⟨R.len, R.nd, fun n c a h1 h2 => (R.cell n c a h1 h2).mono List.prefix_rfl e (fun o => k n a o h2)⟩
/-- a new immutable object -/
theorem HRel.new (R : HRel G et h H) {p : Addr} {o : HO} (hp : H p = none) : HRel G et h (upd H p o) :=
  R.keep (Ext.new hp) fun n a u _ e => by rw [upd_ne (ne_of_none e hp)]; exact e
/-- a new cell -/
theorem HRel.push (R : HRel G et h H) {p : Addr} {o : HO} {c : Cell} (hp : H p = none) (hc : CellOk G (et ++ [p]) (upd H p o) p c) : HRel G (et ++ [p]) (h ++ [c]) (upd H p o) := by
  have pf : et <+: et ++ [p] := List.prefix_append _ _
  have old : ∀ {n : Nat} {c' : Cell}, (h ++ [c])[n]? = some c' → (n < h.length ∧ h[n]? = some c') ∨ (n = h.length ∧ c' = c) := fun {n c'} e => by
    by_cases hn : n < h.length
    · rw [List.getElem?_append_left hn] at e
      exact .inl ⟨hn, e⟩
    · rw [List.getElem?_append_right (by omega)] at e
      have : n - h.length = 0 := by
        have := (List.getElem?_eq_some_iff.mp e).1
        simp at this
        omega
      rw [this] at e
      simp at e
      exact .inr ⟨by omega, e.symm⟩
  have oldA : ∀ {n : Nat} {a : Addr}, n < h.length → (et ++ [p])[n]? = some a → et[n]? = some a := fun {n a} hn e => by
    rw [List.getElem?_append_left (by rw [R.len]; exact hn)] at e
    exact e
  have newA : ∀ {a : Addr}, (et ++ [p])[h.length]? = some a → a = p := fun {a} e => by
    rw [List.getElem?_append_right (by rw [R.len]; exact Nat.le_refl _), R.len, Nat.sub_self] at e
    simp at e
    exact e.symm
  refine ⟨by simp [R.len], fun n m c1 c2 a h1 h2 h3 h4 f1 f2 => ?_, fun n c1 a h1 h2 => ?_⟩
  · rcases old h1 with ⟨l1, g1⟩ | ⟨l1, rfl⟩
    · rcases old h2 with ⟨l2, g2⟩ | ⟨l2, rfl⟩
      · exact R.nd n m c1 c2 a g1 g2 (oldA l1 h3) (oldA l2 h4) f1 f2
      · rw [l2] at h4
        have ea := newA h4
        obtain ⟨o', ho⟩ := (R.cell n c1 a g1 (oldA l1 h3)).there f1
        rw [ea, hp] at ho
        cases ho
    · rcases old h2 with ⟨l2, g2⟩ | ⟨l2, rfl⟩
      · rw [l1] at h3
        have ea := newA h3
        obtain ⟨o', ho⟩ := (R.cell m c2 a g2 (oldA l2 h4)).there f2
        rw [ea, hp] at ho
        cases ho
      · rw [l1, l2]
  · rcases old h1 with ⟨l1, g1⟩ | ⟨l1, rfl⟩
    · refine (R.cell n c1 a g1 (oldA l1 h2)).mono pf (Ext.new hp) fun u e => ?_
      rw [upd_ne (ne_of_none e hp)]
      exact e
    · rw [l1] at h2
      rw [newA h2]
      exact hc
/-- a cell is written -/
theorem HRel.set (R : HRel G et h H) {n : Nat} {a : Addr} {o u : HO} {c c' : Cell} (hn : h[n]? = some c) (ha : et[n]? = some a) (f : c.isFrz = false) (ho : H a = some o) (mu : Mut (some o))
    (hc : CellOk G et (upd H a u) a c') : HRel G et (h.set n c') (upd H a u) := by
  have ex : Ext H (upd H a u) := Ext.mut ho mu
  have ln : n < h.length := (List.getElem?_eq_some_iff.mp hn).1
  refine ⟨by simp [R.len], fun i j c1 c2 b h1 h2 h3 h4 f1 f2 => ?_, fun i c1 b h1 h2 => ?_⟩
  · by_cases hi : i = n
    · by_cases hj : j = n
      · rw [hi, hj]
      · rw [List.getElem?_set_ne (Ne.symm hj)] at h2
        rw [hi] at h3
        rw [ha] at h3
        cases h3
        exact hi.trans (R.nd n j c c2 a hn h2 ha h4 f f2)
    · rw [List.getElem?_set_ne (Ne.symm hi)] at h1
      by_cases hj : j = n
      · rw [hj, ha] at h4
        cases h4
        exact (R.nd i n c1 c a h1 hn h3 ha f1 f).trans hj.symm
      · rw [List.getElem?_set_ne (Ne.symm hj)] at h2
        exact R.nd i j c1 c2 b h1 h2 h3 h4 f1 f2
  · by_cases hi : i = n
    · subst hi
      rw [ha] at h2
      cases h2
      rw [List.getElem?_set_self ln] at h1
      cases h1
      exact hc
    · rw [List.getElem?_set_ne (Ne.symm hi)] at h1
      have old := R.cell i c1 b h1 h2
      cases hf : c1.isFrz with
      | false =>
        have nb : b ≠ a := fun z => by
          subst z
          exact hi (R.nd i n c1 c b h1 hn h2 ha hf f)
        exact old.mono List.prefix_rfl ex fun w e => by rw [upd_ne nb]; exact e
      | true =>
        cases c1 with
        | frz xs =>
          obtain ⟨vs, h5, h6⟩ := old
          exact ⟨vs, h5.ext ex, h6.mono List.prefix_rfl ex⟩
        | _ => cases hf
end
end NR

set_option Elab.async false
set_option linter.all false
set_option maxRecDepth 100000
/-! What syntax does, as a function: the judgement, the rules. -/
namespace NR
open PySem PySem.Spec PyProof.Rows L2

abbrev XF := Option (List (Str × D))
/-- an outcome: a value, an exception, nothing is said -/
inductive R (A : Type) where
  | ok (a : A) (h : IH)
  | ex (c : Str) (d : XF) (h : IH)
  | no
def R.bind {A B : Type} (r : R A) (k : A → IH → R B) : R B :=
  match r with
  | .ok a h => k a h
  | .ex c d h => .ex c d h
  | .no => .no
inductive RS where
  | nx (e : EV) (h : IH) | rt (d : D) (h : IH) | bk (e : EV) (h : IH) | ct (e : EV) (h : IH)
  | ex (c : Str) (d : XF) (e : EV) (h : IH) | no
def R.bindS {A : Type} (r : R A) (env : EV) (k : A → IH → RS) : RS :=
  match r with
  | .ok a h => k a h
  | .ex c d h => .ex c d env h
  | .no => .no
abbrev ME := EV → IH → R D
abbrev MT := EV → IH → R Bool
abbrev MA := EV → IH → R (List D)
abbrev MS := EV → IH → RS
abbrev MF := List D → IH → R D

def ExOk (G : Cf) (et : List Addr) (H : Hp) (c : Str) (d : XF) (cls : Value) (dd : Option Addr) : Prop :=
  cls = .ref (G.C c) ∧ match d with
    | none => dd = none
    | some fs => ∃ a ws, dd = some a ∧ H a = some (.xd ws) ∧ DenK id G et H fs ws

def Pst {A : Type} (G : Cf) (et : List Addr) (H : Hp) (r : R A) (F : List Addr → Hp → IH → A → Prop) (W : Value → Option Addr → Hp → Prop) : Prop :=
  match r with
  | .ok a h' => ∀ et' H', et <+: et' → Ext H H' → HRel G et' h' H' → F et' H' h' a
  | .ex c d h' => ∀ et' H' cls dd, et <+: et' → Ext H H' → HRel G et' h' H' → ExOk G et' H' c d cls dd → W cls dd H'
  | .no => False
section
variable {G : Cf} {et et' : List Addr} {H H' : Hp} {h h' : IH} {A B : Type}
theorem Pst.of_bind {r : R A} {k : A → IH → R B} {F : List Addr → Hp → IH → B → Prop} {W : Value → Option Addr → Hp → Prop} (x : Pst G et H (r.bind k) F W) :
    Pst G et H r (fun et1 H1 h1 a => Pst G et1 H1 (k a h1) F W) W := by
  cases r with
  | ok a h1 =>
    intro et1 H1 p e hr
    show Pst G et1 H1 (k a h1) F W
    have y : Pst G et H (k a h1) F W := x
    cases hk : k a h1 with
    | ok b h2 => rw [hk] at y; exact fun et2 H2 p2 e2 hr2 => y et2 H2 (p.trans p2) (e.trans e2) hr2
    | ex c d h2 => rw [hk] at y; exact fun et2 H2 cls dd p2 e2 hr2 => y et2 H2 cls dd (p.trans p2) (e.trans e2) hr2
    | no => rw [hk] at y; exact y
  | ex c d h1 => exact x
  | no => exact x
theorem Pst.imp {r : R A} {F F' : List Addr → Hp → IH → A → Prop} {W : Value → Option Addr → Hp → Prop} (x : Pst G et H r F W)
    (k : ∀ et' H' h' a, et <+: et' → Ext H H' → HRel G et' h' H' → F et' H' h' a → F' et' H' h' a) : Pst G et H r F' W := by
  cases r with
  | ok a h1 => exact fun et1 H1 p e hr => k et1 H1 h1 a p e hr (x et1 H1 p e hr)
  | ex c d h1 => exact x
  | no => exact x
theorem Pst.weak {r : R A} {F : List Addr → Hp → IH → A → Prop} {W : Value → Option Addr → Hp → Prop} (p : et <+: et') (e : Ext H H') (x : Pst G et H r F W) : Pst G et' H' r F W := by
  cases r with
  | ok a h1 => exact fun et1 H1 p1 e1 hr => x et1 H1 (p.trans p1) (e.trans e1) hr
  | ex c d h1 => exact fun et1 H1 cls dd p1 e1 hr => x et1 H1 cls dd (p.trans p1) (e.trans e1) hr
  | no => exact x
end

/-- the slots hold the values -/
def EnvR (G : Cf) (et : List Addr) (H : Hp) (env : EV) (σ : L2.St) : Prop :=
  env.length = σ.length ∧ ∀ (i : Nat) (d : D), env[i]? = some (some d) → ∃ v, σ[i]? = some (some v) ∧ Den G et H d v
section
variable {G : Cf} {et et' : List Addr} {H H' : Hp} {h h' : IH} {A B : Type} {env : EV} {σ : L2.St}
theorem EnvR.mono (p : et <+: et') (e : Ext H H') (x : EnvR G et H env σ) : EnvR G et' H' env σ :=
  ⟨x.1, fun i d q => let ⟨v, a, b⟩ := x.2 i d q; ⟨v, a, b.mono p e⟩⟩
theorem EnvR.set (x : EnvR G et H env σ) (i : Nat) {d : D} {v : V} (r : Den G et H d v) : EnvR G et H (env.set i (some d)) (σ.set i (some v)) := by
  refine ⟨by simp [x.1], fun j d' q => ?_⟩
  by_cases hj : j = i
  · subst hj
    by_cases hl : j < env.length
    · rw [List.getElem?_set_self hl] at q
      cases q
      exact ⟨v, by rw [List.getElem?_set_self (by rw [← x.1]; exact hl)], r⟩
    · rw [List.set_eq_of_length_le (by omega)] at q
      have := (List.getElem?_eq_some_iff.mp q).1
      exact absurd this hl
  · rw [List.getElem?_set_ne (Ne.symm hj)] at q
    obtain ⟨w, a, b⟩ := x.2 j d' q
    exact ⟨w, by rw [List.getElem?_set_ne (Ne.symm hj)]; exact a, b⟩
end

def tE (G : Cf) (W : WX) (m : ME) : TE := fun σ H Q => ∃ et env h, EnvR G et H env σ ∧ HRel G et h H ∧
  Pst G et H (m env h) (fun et' H' _ d => ∀ v, Den G et' H' d v → Q v H') (fun c d H' => W c d σ H')
def tT (G : Cf) (W : WX) (m : MT) : TT := fun σ H Q => ∃ et env h, EnvR G et H env σ ∧ HRel G et h H ∧
  Pst G et H (m env h) (fun _ H' _ b => Q b H') (fun c d H' => W c d σ H')
def tA (G : Cf) (W : WX) (m : MA) : TA := fun σ H Q => ∃ et env h, EnvR G et H env σ ∧ HRel G et h H ∧
  Pst G et H (m env h) (fun et' H' _ ds => ∀ vs, DenL G et' H' ds vs → Q vs H') (fun c d H' => W c d σ H')
def PstS (G : Cf) (et : List Addr) (H : Hp) (r : RS) (D : Ends) (W : WX) : Prop :=
  match r with
  | .nx env' h' => ∀ et' H' σ', et <+: et' → Ext H H' → HRel G et' h' H' → EnvR G et' H' env' σ' → D.nx σ' H'
  | .bk env' h' => ∀ et' H' σ', et <+: et' → Ext H H' → HRel G et' h' H' → EnvR G et' H' env' σ' → D.bk σ' H'
  | .ct env' h' => ∀ et' H' σ', et <+: et' → Ext H H' → HRel G et' h' H' → EnvR G et' H' env' σ' → D.ct σ' H'
  | .rt d h' => ∀ et' H' v, et <+: et' → Ext H H' → HRel G et' h' H' → Den G et' H' d v → D.rt v H'
  | .ex c d env' h' => ∀ et' H' σ' cls dd, et <+: et' → Ext H H' → HRel G et' h' H' → EnvR G et' H' env' σ' → ExOk G et' H' c d cls dd → W cls dd σ' H'
  | .no => False
def tS (G : Cf) (W : WX) (m : MS) : TS := fun D σ H => ∃ et env h, EnvR G et H env σ ∧ HRel G et h H ∧ PstS G et H (m env h) D W

theorem PE.imp {X : Cx} {e : Expr} {t t' : TE} (h : PE X e t) (k : ∀ σ H Q, t' σ H Q → t σ H Q) : PE X e t' := ⟨fun pins s σ H Q I x => h.run pins s σ H Q I (k σ H Q x)⟩
theorem PT.imp {X : Cx} {e : Expr} {t t' : TT} (h : PT X e t) (k : ∀ σ H Q, t' σ H Q → t σ H Q) : PT X e t' := ⟨fun pins s σ H Q I x => h.run pins s σ H Q I (k σ H Q x)⟩
theorem PW.imp {X : Cx} {e : Expr} {t t' : TT} (h : PW X e t) (k : ∀ σ H Q, t' σ H Q → t σ H Q) : PW X e t' := ⟨fun wh pins s σ H Q I x => h.run wh pins s σ H Q I (k σ H Q x)⟩
theorem PA.imp {X : Cx} {e : List Expr} {t t' : TA} (h : PA X e t) (k : ∀ σ H Q, t' σ H Q → t σ H Q) : PA X e t' := ⟨fun pos pins s σ H Q I x => h.run pos pins s σ H Q I (k σ H Q x)⟩
theorem PS.imp {X : Cx} {e : Stmt} {t t' : TS} (h : PS X e t) (k : ∀ D σ H, t' D σ H → t D σ H) : PS X e t' := ⟨fun pins s σ H D I x => h.run pins s σ H D I (k D σ H x)⟩
theorem PSs.imp {X : Cx} {e : List Stmt} {t t' : TS} (h : PSs X e t) (k : ∀ D σ H, t' D σ H → t D σ H) : PSs X e t' := ⟨fun pins s σ H D I x => h.run pins s σ H D I (k D σ H x)⟩

section
variable {G : Cf} {W : WX} {σ : L2.St} {H : Hp} {A B : Type}
/-- two in a row -/
theorem tE.bind {m : ME} {k : EV → D → IH → R D} {Q : VK} (x : tE G W (fun env h => (m env h).bind (k env)) σ H Q) :
    tE G W m σ H fun v H1 => ∃ et1 env h1 d, EnvR G et1 H1 env σ ∧ HRel G et1 h1 H1 ∧ Den G et1 H1 d v ∧ Pst G et1 H1 (k env d h1) (fun et' H' _ d => ∀ v, Den G et' H' d v → Q v H') (fun c d H' => W c d σ H') := by
  obtain ⟨et, env, h, hE, hH, hP⟩ := x
  exact ⟨et, env, h, hE, hH, (Pst.of_bind hP).imp fun et1 H1 h1 a p e hr q v hv => ⟨et1, env, h1, a, hE.mono p e, hr, hv, q⟩⟩
end

/-! ### names, constants -/
def mVar (i : Nat) : ME := fun env h => match env[i]? with
  | some (some d) => .ok d h
  | _ => .no
def mC (d : D) : ME := fun _ h => .ok d h
section
variable {X : Cx} {G : Cf} {W : WX}
theorem me_var (i : Nat) {x : Str} {pos : Pos} (hN : X.N[i]? = some x := by rfl) (hv : Vis X.env.scope x := by first | exact Or.inl rfl | exact Or.inr (Or.inl rfl) | exact Or.inr (Or.inr rfl)) (hd : (x == ("__debug__" : Str)) = false := by decide)
    (hcd : (x == ("__classdict__" : Str)) = false := by decide) : PE X (.Name x pos) (tE G W (mVar i)) :=
  PE.imp (pe_var hN hv hd hcd) fun σ H Q ⟨et, env, h, hE, hH, hP⟩ => by
    unfold mVar at hP
    split at hP
    · rename_i d hd
      obtain ⟨v, e1, r⟩ := hE.2 i d hd
      exact ⟨v, e1, hP et H List.prefix_rfl (Ext.refl H) hH v r⟩
    · exact hP.elim
theorem tE.const {d : D} {v : V} {σ : L2.St} {H : Hp} {Q : VK} (x : tE G W (mC d) σ H Q) (r : ∀ et, Den G et H d v) : Q v H := by
  obtain ⟨et, env, h, hE, hH, hP⟩ := x
  exact hP et H List.prefix_rfl (Ext.refl H) hH v (r et)
theorem me_int {i j pos} : PE X (.Constant (.int i) j pos) (tE G W (mC (.int i))) := PE.imp pe_int fun _ _ _ x => x.const (v := .int i) fun et => by simp [Den]
theorem me_bl {b j pos} : PE X (.Constant (.bool b) j pos) (tE G W (mC (.bl b))) := PE.imp pe_bl fun _ _ _ x => x.const (v := .bl b) fun et => by simp [Den]
theorem me_non {j pos} : PE X (.Constant .none j pos) (tE G W (mC .non)) := PE.imp pe_non fun _ _ _ x => x.const (v := .non) fun et => by simp [Den]
theorem me_str {x : Str} {j pos} (s : List Nat) (e : strV s = x := by decide +kernel) : PE X (.Constant (.str x) j pos) (tE G W (mC (.str s))) := PE.imp pe_str fun _ _ _ y => y.const (v := .str x) fun et => by simp [Den, e]
/-- a module's constant that is a number or a text -/
def OfC : D → Value → Prop
  | .int i, u => ∃ t, u = .int i t
  | .str s, u => ∃ t, u = .str (strV s) t
  | _, _ => False
theorem me_glob {x : Str} {u : Value} {pos : Pos} (d : D) (r : OfC d u) (hm : X.mg x = some u) (hg : Gl X x := by rfl) (hd : (x == ("__debug__" : Str)) = false := by decide) : PE X (.Name x pos) (tE G W (mC d)) := by
  cases d with
  | int i => exact PE.imp (pe_glob (v := .int i) hg hm r hd) fun _ _ _ y => y.const (v := .int i) fun et => by simp [Den]
  | str s => exact PE.imp (pe_glob (v := .str (strV s)) hg hm r hd) fun _ _ _ y => y.const (v := .str (strV s)) fun et => by simp [Den]
  | _ => exact r.elim
end

/-! ### operators by values -/
/-- f on trees is what the rule r asks -/
def OpS (G : Cf) (r : R2) (f : D → D → IH → R D) : Prop := ∀ (et : List Addr) (H : Hp) (h : IH) (x y : D) (v w : V) (W : Value → Option Addr → Hp → Prop) (Q : VK), Den G et H x v → Den G et H y w → HRel G et h H →
  Pst G et H (f x y h) (fun et' H' _ d => ∀ v, Den G et' H' d v → Q v H') W → r v w H Q
def mOp (f : D → D → IH → R D) (a b : ME) : ME := fun env h => (a env h).bind fun x h1 => (b env h1).bind fun y h2 => f x y h2
section
variable {X : Cx} {G : Cf} {W : WX} {a b e : Expr} {ma mb mc : ME} {pos : Pos} {r : R2} {f : D → D → IH → R D}
theorem tOp_of {σ : L2.St} {H : Hp} {Q : VK} (hs : OpS G r f) (x : tE G W (mOp f ma mb) σ H Q) : tOp r (tE G W ma) (tE G W mb) σ H Q := by
  obtain ⟨et, env, h, hE, hH, hP⟩ := x
  refine ⟨et, env, h, hE, hH, (Pst.of_bind hP).imp fun et1 H1 h1 x p e hr q v hv => ?_⟩
  refine ⟨et1, env, h1, hE.mono p e, hr, (Pst.of_bind q).imp fun et2 H2 h2 y p2 e2 hr2 q2 w hw => ?_⟩
  exact hs et2 H2 h2 x y v w _ Q (hv.mono p2 e2) hw hr2 q2
theorem me_op {op : Operator} (ho : OpR X (binaryOp op) r) (hs : OpS G r f) (ha : PE X a (tE G W ma)) (hb : PE X b (tE G W mb)) : PE X (.BinOp a op b pos) (tE G W (mOp f ma mb)) :=
  PE.imp (pe_op ho ha hb) fun _ _ _ x => tOp_of hs x
theorem me_cmp {op : CmpOp} (ho : OpR X (compareOp op) r) (hs : OpS G r f) (ha : PE X a (tE G W ma)) (hb : PE X b (tE G W mb)) (hm : behindInMarks op b = false := by first | exact nomark _ | rfl) : PE X (.Compare a [op] [b] pos) (tE G W (mOp f ma mb)) :=
  PE.imp (pe_cmpR ho ha hb hm) fun _ _ _ x => tOp_of hs x
end
#check @nomark
#check @pe_cmpR
#check @pt_truth
#check @pt_cmpR
end NR

set_option Elab.async false
set_option linter.all false
set_option maxRecDepth 100000
/-! Operators. -/
namespace NR
open PySem PySem.Spec PyProof.Rows L2

theorem sz {n : Nat} (h : n ≤ 10000000) : n ≤ sizeLine := by rw [sizeLine_eq]; omega
section
variable {G : Cf} {et : List Addr} {H : Hp} {v : V}
@[simp] theorem den_non : Den G et H .non v ↔ v = .non := by simp [Den]
@[simp] theorem den_bl {b : Bool} : Den G et H (.bl b) v ↔ v = .bl b := by simp [Den]
@[simp] theorem den_int {i : Int} : Den G et H (.int i) v ↔ v = .int i := by simp [Den]
@[simp] theorem den_str {s : List Nat} : Den G et H (.str s) v ↔ v = .str (strV s) := by simp [Den]
@[simp] theorem den_tup {l : List D} : Den G et H (.tup l) v ↔ ∃ a vs, v = .ref a ∧ TpT H a vs ∧ DenL G et H l vs := by simp [Den]
@[simp] theorem den_ref {n : Nat} : Den G et H (.ref n) v ↔ ∃ a, et[n]? = some a ∧ v = .ref a := by simp [Den]
@[simp] theorem den_fl {l : List D} : Den G et H (.fl l) v ↔ ∃ a vs, v = .ref a ∧ FrzM H a vs ∧ DenL G et H l vs := by simp [Den]
@[simp] theorem den_fd {ks : List DKey} {l : List D} : Den G et H (.fd ks l) v ↔ ∃ a ws, v = .ref a ∧ FrzD H a ws ∧ ws.map (·.1) = ks.map keyV ∧ DenL G et H l (ws.map (·.2)) := by simp [Den]
@[simp] theorem denL_nil {vs : List V} : DenL G et H [] vs ↔ vs = [] := by simp [DenL]
@[simp] theorem denL_cons {d : D} {ds : List D} {vs : List V} : DenL G et H (d :: ds) vs ↔ ∃ v ws, vs = v :: ws ∧ Den G et H d v ∧ DenL G et H ds ws := by simp [DenL]
theorem DenL.len : ∀ {ds : List D} {vs : List V}, DenL G et H ds vs → vs.length = ds.length
  | [], _, h => by rw [denL_nil] at h; rw [h]; rfl
  | d :: ds, _, h => by
    obtain ⟨v, ws, rfl, _, h2⟩ := denL_cons.mp h
    simp [DenL.len h2]
theorem DenL.get : ∀ {ds : List D} {vs : List V} {i : Nat} {d : D}, DenL G et H ds vs → ds[i]? = some d → ∃ v, vs[i]? = some v ∧ Den G et H d v
  | [], _, _, _, _, e => by simp at e
  | d :: ds, _, i, d', h, e => by
    obtain ⟨v, ws, rfl, h1, h2⟩ := denL_cons.mp h
    cases i with
    | zero => simp at e; subst e; exact ⟨v, by simp, h1⟩
    | succ i => obtain ⟨u, a, b⟩ := DenL.get (i := i) h2 (by simpa using e); exact ⟨u, by simpa using a, b⟩
theorem DenL.get' : ∀ {ds : List D} {vs : List V} {i : Nat} {v : V}, DenL G et H ds vs → vs[i]? = some v → ∃ d, ds[i]? = some d ∧ Den G et H d v
  | [], _, _, _, h, e => by rw [denL_nil] at h; subst h; simp at e
  | d :: ds, _, i, v', h, e => by
    obtain ⟨v, ws, rfl, h1, h2⟩ := denL_cons.mp h
    cases i with
    | zero => simp at e; subst e; exact ⟨d, by simp, h1⟩
    | succ i => obtain ⟨u, a, b⟩ := DenL.get' (i := i) h2 (by simpa using e); exact ⟨u, by simpa using a, b⟩
theorem DenL.app : ∀ {ds es : List D} {vs ws : List V}, DenL G et H ds vs → DenL G et H es ws → DenL G et H (ds ++ es) (vs ++ ws)
  | [], _, _, _, h, k => by rw [denL_nil] at h; subst h; exact k
  | d :: ds, _, _, _, h, k => by
    obtain ⟨v, ws, rfl, h1, h2⟩ := denL_cons.mp h
    exact denL_cons.mpr ⟨v, _, rfl, h1, DenL.app h2 k⟩
theorem DenL.take : ∀ (n : Nat) {ds : List D} {vs : List V}, DenL G et H ds vs → DenL G et H (ds.take n) (vs.take n)
  | 0, _, _, _ => by simp
  | n + 1, [], _, h => by rw [denL_nil] at h; subst h; simp
  | n + 1, d :: ds, _, h => by
    obtain ⟨v, ws, rfl, h1, h2⟩ := denL_cons.mp h
    exact denL_cons.mpr ⟨v, _, rfl, h1, DenL.take n h2⟩
theorem DenL.drop : ∀ (n : Nat) {ds : List D} {vs : List V}, DenL G et H ds vs → DenL G et H (ds.drop n) (vs.drop n)
  | 0, _, _, h => by simpa using h
  | n + 1, [], _, h => by rw [denL_nil] at h; subst h; simp
  | n + 1, d :: ds, _, h => by
    obtain ⟨v, ws, rfl, h1, h2⟩ := denL_cons.mp h
    simpa using DenL.drop n h2
theorem DenL.set : ∀ {ds : List D} {vs : List V} (i : Nat) {d : D} {v : V}, DenL G et H ds vs → Den G et H d v → DenL G et H (ds.set i d) (vs.set i v)
  | [], _, _, _, _, h, _ => by rw [denL_nil] at h; subst h; simp
  | d :: ds, _, i, d', v', h, k => by
    obtain ⟨v, ws, rfl, h1, h2⟩ := denL_cons.mp h
    cases i with
    | zero => exact denL_cons.mpr ⟨_, _, rfl, k, h2⟩
    | succ i => exact denL_cons.mpr ⟨_, _, rfl, h1, DenL.set i h2 k⟩
theorem DenL.ints : ∀ {ns : List Int} {vs : List V}, DenL G et H (ns.map D.int) vs → vs = ns.map V.int
  | [], _, h => by simpa using h
  | n :: ns, _, h => by
    obtain ⟨v, ws, rfl, h1, h2⟩ := denL_cons.mp h
    rw [den_int.mp h1, DenL.ints h2]; rfl
theorem DenL.bls : ∀ {ns : List Bool} {vs : List V}, DenL G et H (ns.map D.bl) vs → vs = ns.map V.bl
  | [], _, h => by simpa using h
  | n :: ns, _, h => by
    obtain ⟨v, ws, rfl, h1, h2⟩ := denL_cons.mp h
    rw [den_bl.mp h1, DenL.bls h2]; rfl
theorem DenL.strs : ∀ {ns : List (List Nat)} {vs : List V}, DenL G et H (ns.map D.str) vs → vs = (ns.map strV).map V.str
  | [], _, h => by simpa using h
  | n :: ns, _, h => by
    obtain ⟨v, ws, rfl, h1, h2⟩ := denL_cons.mp h
    rw [den_str.mp h1, DenL.strs h2]; rfl
theorem DenL.ofInts : ∀ {ns : List Int}, DenL G et H (ns.map D.int) (ns.map V.int)
  | [] => by simp
  | n :: ns => denL_cons.mpr ⟨_, _, rfl, by simp, DenL.ofInts⟩
theorem DenL.ofStrs : ∀ {ns : List (List Nat)}, DenL G et H (ns.map D.str) ((ns.map strV).map V.str)
  | [] => by simp
  | n :: ns => denL_cons.mpr ⟨_, _, rfl, by simp, DenL.ofStrs⟩
end

/-- all of a list are of a kind -/
def allM {A : Type} (f : D → Option A) : List D → Option (List A)
  | [] => some []
  | d :: ds => match f d, allM f ds with
    | some a, some as => some (a :: as)
    | _, _ => none
def D.int? : D → Option Int
  | .int i => some i
  | _ => none
def D.bl? : D → Option Bool
  | .bl i => some i
  | _ => none
def D.str? : D → Option (List Nat)
  | .str i => some i
  | _ => none
theorem allM_ints : ∀ {ds : List D} {ns : List Int}, allM D.int? ds = some ns → ds = ns.map D.int
  | [], _, h => by simp [allM] at h; subst h; rfl
  | d :: ds, ns, h => by
    unfold allM at h
    cases e1 : D.int? d with
    | none => rw [e1] at h; simp at h
    | some a =>
      cases e2 : allM D.int? ds with
      | none => rw [e1, e2] at h; simp at h
      | some as =>
        rw [e1, e2] at h
        simp at h
        subst h
        rw [allM_ints e2]
        cases d <;> simp [D.int?] at e1
        subst e1
        rfl
theorem allM_bls : ∀ {ds : List D} {ns : List Bool}, allM D.bl? ds = some ns → ds = ns.map D.bl
  | [], _, h => by simp [allM] at h; subst h; rfl
  | d :: ds, ns, h => by
    unfold allM at h
    cases e1 : D.bl? d with
    | none => rw [e1] at h; simp at h
    | some a =>
      cases e2 : allM D.bl? ds with
      | none => rw [e1, e2] at h; simp at h
      | some as =>
        rw [e1, e2] at h
        simp at h
        subst h
        rw [allM_bls e2]
        cases d <;> simp [D.bl?] at e1
        subst e1
        rfl
theorem allM_strs : ∀ {ds : List D} {ns : List (List Nat)}, allM D.str? ds = some ns → ds = ns.map D.str
  | [], _, h => by simp [allM] at h; subst h; rfl
  | d :: ds, ns, h => by
    unfold allM at h
    cases e1 : D.str? d with
    | none => rw [e1] at h; simp at h
    | some a =>
      cases e2 : allM D.str? ds with
      | none => rw [e1, e2] at h; simp at h
      | some as =>
        rw [e1, e2] at h
        simp at h
        subst h
        rw [allM_strs e2]
        cases d <;> simp [D.str?] at e1
        subst e1
        rfl
@[simp] theorem allM_mkInts (ns : List Int) : allM D.int? (ns.map D.int) = some ns := by
  induction ns with
  | nil => rfl
  | cons n ns ih => simp [allM, D.int?, ih]
@[simp] theorem allM_mkBls (ns : List Bool) : allM D.bl? (ns.map D.bl) = some ns := by
  induction ns with
  | nil => rfl
  | cons n ns ih => simp [allM, D.bl?, ih]
@[simp] theorem allM_mkStrs (ns : List (List Nat)) : allM D.str? (ns.map D.str) = some ns := by
  induction ns with
  | nil => rfl
  | cons n ns ih => simp [allM, D.str?, ih]

/-! ### a list's or a tuple's items -/
def seqOf (h : IH) : D → Option (List D)
  | .tup l => some l
  | .fl l => some l
  | .ref n => match h[n]? with
    | some (.lst xs) => some xs
    | some (.frz xs) => some xs
    | _ => none
  | _ => none
def lstOf (h : IH) : D → Option (List D)
  | .fl l => some l
  | .ref n => match h[n]? with
    | some (.lst xs) => some xs
    | some (.frz xs) => some xs
    | _ => none
  | _ => none
section
variable {G : Cf} {et : List Addr} {H : Hp} {h : IH}
theorem lst_ok (R : HRel G et h H) {x : D} {xs : List D} {v : V} (e : lstOf h x = some xs) (r : Den G et H x v) : ∃ a vs, v = .ref a ∧ SqL G.K H a vs ∧ DenL G et H xs vs := by
  cases x with
  | fl l =>
    simp only [lstOf, Option.some.injEq] at e
    subst e
    obtain ⟨a, vs, h1, h2, h3⟩ := den_fl.mp r
    exact ⟨a, vs, h1, h2.sq, h3⟩
  | ref n =>
    obtain ⟨a, h1, rfl⟩ := den_ref.mp r
    simp only [lstOf] at e
    split at e
    · rename_i ys hy
      cases e
      obtain ⟨vs, h2, h3⟩ := R.cell n _ a hy h1
      exact ⟨a, vs, rfl, SqL.of h2, h3⟩
    · rename_i ys hy
      cases e
      obtain ⟨vs, h2, h3⟩ := R.cell n _ a hy h1
      exact ⟨a, vs, rfl, h2.sq, h3⟩
    · cases e
  | _ => simp [lstOf] at e
theorem seq_ok (R : HRel G et h H) {x : D} {xs : List D} {v : V} (e : seqOf h x = some xs) (r : Den G et H x v) : ∃ a vs, v = .ref a ∧ (SqL G.K H a vs ∨ SqT G.K H a vs) ∧ DenL G et H xs vs := by
  cases x with
  | tup l =>
    simp only [seqOf, Option.some.injEq] at e
    subst e
    obtain ⟨a, vs, h1, h2, h3⟩ := den_tup.mp r
    exact ⟨a, vs, h1, .inr h2, h3⟩
  | ref n =>
    obtain ⟨a, vs, h1, h2, h3⟩ := lst_ok R (x := .ref n) (by simpa only [lstOf, seqOf] using e) r
    exact ⟨a, vs, h1, .inl h2, h3⟩
  | fl l =>
    obtain ⟨a, vs, h1, h2, h3⟩ := lst_ok R (x := .fl l) (by simpa only [lstOf, seqOf] using e) r
    exact ⟨a, vs, h1, .inl h2, h3⟩
  | _ => simp [seqOf] at e
theorem Pst.here {A : Type} {a : A} {F : List Addr → Hp → IH → A → Prop} {W : Value → Option Addr → Hp → Prop} (R : HRel G et h H) (x : Pst G et H (.ok a h) F W) : F et H h a := x et H List.prefix_rfl (Ext.refl H) R
/-- a new tuple -/
theorem Pst.newT {l : List D} {vs : List V} {Q : VK} {W : Value → Option Addr → Hp → Prop} (R : HRel G et h H) (r : DenL G et H l vs) (x : Pst G et H (.ok (.tup l) h) (fun et' H' _ d => ∀ v, Den G et' H' d v → Q v H') W) :
    ∀ p, H p = none → Q (.ref p) (upd H p (.tup vs)) := fun p hp =>
  x et (upd H p (.tup vs)) List.prefix_rfl (Ext.new hp) (R.new hp) _ (den_tup.mpr ⟨p, vs, rfl, upd_same, r.mono List.prefix_rfl (Ext.new hp)⟩)
/-- a new list -/
theorem Pst.newL {l : List D} {vs : List V} {Q : VK} {W : Value → Option Addr → Hp → Prop} (R : HRel G et h H) (r : DenL G et H l vs) (x : Pst G et H (.ok (.ref h.length) (h ++ [.lst l])) (fun et' H' _ d => ∀ v, Den G et' H' d v → Q v H') W) :
    ∀ p, H p = none → Q (.ref p) (upd H p (.lst vs)) := fun p hp => by
  refine x (et ++ [p]) (upd H p (.lst vs)) (List.prefix_append _ _) (Ext.new hp) (R.push hp ⟨vs, upd_same, r.mono (List.prefix_append _ _) (Ext.new hp)⟩) _ (den_ref.mpr ⟨p, ?_, rfl⟩)
  rw [← R.len, List.getElem?_append_right (Nat.le_refl _), Nat.sub_self]
  rfl
end

/-- a list that stands in the heap -/
def lsOf (h : IH) : D → Option (List D)
  | .fl l => some l
  | .ref n => match h[n]? with
    | some (.lst xs) => some xs
    | _ => none
  | _ => none
theorem ls_ok {G : Cf} {et : List Addr} {H : Hp} {h : IH} (R : HRel G et h H) {x : D} {xs : List D} {v : V} (e : lsOf h x = some xs) (r : Den G et H x v) : ∃ a vs, v = .ref a ∧ Rd H a (.lst vs) ∧ DenL G et H xs vs := by
  cases x with
  | fl l =>
    simp only [lsOf, Option.some.injEq] at e
    subst e
    obtain ⟨a, vs, h1, h2, h3⟩ := den_fl.mp r
    exact ⟨a, vs, h1, h2.rd, h3⟩
  | ref n =>
    obtain ⟨a, h1, rfl⟩ := den_ref.mp r
    simp only [lsOf] at e
    split at e
    · rename_i ys hy
      cases e
      obtain ⟨vs, h2, h3⟩ := R.cell n _ a hy h1
      exact ⟨a, vs, rfl, .inl h2, h3⟩
    · cases e
  | _ => simp [lsOf] at e
/-! ### arithmetic -/
def dI (C : Int → Int → Bool) (g : Int → Int → Int) : D → D → IH → R D
  | .int i, .int j, h => if C i j then .ok (.int (g i j)) h else .no
  | _, _, _ => .no
theorem opS_I {G : Cf} {C : Int → Int → Bool} {C' : Int → Int → Prop} {g : Int → Int → Int} (hC : ∀ i j, C i j = true → C' i j) : OpS G (rI C' fun i j => .int (g i j)) (dI C g) := by
  intro et H h x y v w W Q rx ry R p
  unfold dI at p
  split at p
  · rename_i i j
    split at p
    · rename_i c
      exact ⟨i, j, den_int.mp rx, den_int.mp ry, hC i j c, p.here R _ (by simp)⟩
    · exact p.elim
  · exact p.elim
def dSub : D → D → IH → R D
  | .int i, .int j, h => .ok (.int (i - j)) h
  | _, _, _ => .no
def cMul (i j : Int) : Bool := (decide (-(2 ^ 64) < i) && decide (i < 2 ^ 64)) || (decide (-(2 ^ 64) < j) && decide (j < 2 ^ 64))
def cDiv (_ j : Int) : Bool := decide (0 < j) && decide (j < 2 ^ 64)
def cMod (_ j : Int) : Bool := decide (0 < j)
def cPow (i j : Int) : Bool := decide (0 ≤ j) && decide (j ≤ 1000000) && decide (i.natAbs < 2 ^ 64)
def dMul : D → D → IH → R D
  | .int i, .int j, h => if cMul i j then .ok (.int (i * j)) h else .no
  | .str a, .int k, h => if 0 ≤ k ∧ k ≤ 1000 ∧ a.length ≤ 10000 then .ok (.str (List.replicate k.toNat a).flatten) h else .no
  | .tup l, .int k, h => if 0 < l.length ∧ 2 ≤ k ∧ k ≤ 1000 ∧ l.length ≤ 1000 then .ok (.tup (List.replicate k.toNat l).flatten) h else if k = 1 then .ok (.tup l) h else .no
  | .ref n, .int k, h => match h[n]? with
    | some (.lst xs) => if k ≤ 10000000 ∧ -10000000 ≤ k ∧ xs.length * k.toNat ≤ 10000000 then .ok (.ref h.length) (h ++ [.lst (List.replicate k.toNat xs).flatten]) else .no
    | _ => .no
  | _, _, _ => .no
abbrev dDiv := dI cDiv fun i j => i / j
abbrev dMod := dI cMod fun i j => i % j
abbrev dPow := dI cPow fun i j => i ^ j.toNat
def dAdd : D → D → IH → R D
  | .int i, .int j, h => .ok (.int (i + j)) h
  | .str a, .str b, h => if a.length + b.length ≤ 10000000 then .ok (.str (a ++ b)) h else .no
  | .tup a, .tup b, h => if a.length + b.length ≤ 10000000 then .ok (.tup (a ++ b)) h else .no
  | x, y, h => match lsOf h x, lsOf h y with
    | some xs, some ys => if xs.length + ys.length ≤ 10000000 then .ok (.ref h.length) (h ++ [.lst (xs ++ ys)]) else .no
    | _, _ => .no
section
variable {X : Cx} {G : Cf} {W : WX} {a b e : Expr} {ma mb mc : ME} {pos : Pos}
theorem me_sub (ha : PE X a (tE G W ma)) (hb : PE X b (tE G W mb)) : PE X (.BinOp a .Sub b pos) (tE G W (mOp dSub ma mb)) := by
  refine me_op op_sub ?_ ha hb
  intro et H h x y v w W Q rx ry R p
  unfold dSub at p
  split at p
  · exact ⟨_, _, den_int.mp rx, den_int.mp ry, p.here R _ (by simp)⟩
  · exact p.elim
theorem me_mod (ha : PE X a (tE G W ma)) (hb : PE X b (tE G W mb)) : PE X (.BinOp a .Mod b pos) (tE G W (mOp dMod ma mb)) :=
  me_op op_mod (opS_I fun i j c => by simpa [cMod] using c) ha hb
theorem me_div (ha : PE X a (tE G W ma)) (hb : PE X b (tE G W mb)) : PE X (.BinOp a .FloorDiv b pos) (tE G W (mOp dDiv ma mb)) :=
  me_op op_fdivW (opS_I fun i j c => by
    have c' : 0 < j ∧ j < 2 ^ 64 := by simpa [cDiv] using c
    exact wide_div c'.1 (b := 64) (by omega) (by decide) (by decide)) ha hb
theorem me_pow (ha : PE X a (tE G W ma)) (hb : PE X b (tE G W mb)) : PE X (.BinOp a .Pow b pos) (tE G W (mOp dPow ma mb)) :=
  me_op op_pow (opS_I fun i j c => by
    have c' : (0 ≤ j ∧ j ≤ 1000000) ∧ i.natAbs < 2 ^ 64 := by simpa [cPow] using c
    exact ⟨c'.1.1, c'.1.2, c'.2⟩) ha hb
theorem den_list {et : List Addr} {H : Hp} {h : IH} (R : HRel G et h H) {n : Nat} {xs : List D} {v : V} (e : h[n]? = some (.lst xs)) (r : Den G et H (.ref n) v) : ∃ a vs, et[n]? = some a ∧ v = .ref a ∧ H a = some (.lst vs) ∧ DenL G et H xs vs := by
  obtain ⟨a, h1, rfl⟩ := den_ref.mp r
  obtain ⟨vs, h2, h3⟩ := R.cell n _ a e h1
  exact ⟨a, vs, h1, rfl, h2, h3⟩
theorem DenL.flat {et : List Addr} {H : Hp} {xs : List D} {vs : List V} (r : DenL G et H xs vs) : ∀ k : Nat, DenL G et H (List.replicate k xs).flatten (List.replicate k vs).flatten
  | 0 => by simp
  | k + 1 => by
    rw [List.replicate_succ, List.replicate_succ, List.flatten_cons, List.flatten_cons]
    exact r.app (r.flat k)
end

section
variable {X : Cx}
theorem Inv.lstR {pins : List (Addr × Obj)} {σ : L2.St} {H : Hp} {s : Shared} {a : Addr} {xs : List V} (I : Inv X pins σ H s) (r : Rd H a (.lst xs)) : xs.length ≤ sizeLine ∧ ∃ (its : List Value) (n : Nat), Vals xs its ∧ s.heap.get? a = some { cls := .type "list", data := .seq its.toArray n } := by
  rcases r with r | ⟨o, r⟩
  · exact I.hok a _ r
  · exact (I.hok a _ r).2
def rCatR : R2 := fun x y H Q => ∃ l b xs zs, x = .ref l ∧ y = .ref b ∧ Rd H l (.lst xs) ∧ Rd H b (.lst zs) ∧ xs.length + zs.length ≤ sizeLine ∧ ∀ p, H p = none → Q (.ref p) (upd H p (.lst (xs ++ zs)))
theorem op_catR : OpR X (binaryOp .Add) rCatR := by
  intro pins s σ H x y v u Q I rx ry h
  obtain ⟨l, b, xs, zs, rfl, rfl, hH, hB, hz, q⟩ := h
  cases rx
  cases ry
  obtain ⟨z, its, n, r, e⟩ := Inv.lstR I hH
  obtain ⟨z2, its2, n2, r2, e2⟩ := Inv.lstR I hB
  refine PySem.P.add_list e e2 ?_ (by rw [List.size_toArray, List.size_toArray, ← r.length, ← r2.length]; omega)
  have ea : its.toArray ++ its2.toArray = (its ++ its2).toArray := by simp
  rw [ea]
  exact ⟨.ref _, _, I.lnew (t' := s.toks) (r.append r2) (by rw [List.length_append]; omega), rfl, q _ I.fresh⟩
end
section
variable {X : Cx} {G : Cf} {W : WX} {a b e : Expr} {ma mb mc : ME} {pos : Pos}
theorem foldl_arr (a : List Nat) : ∀ (n : Nat) (z : Array Nat), (List.replicate n a.toArray).foldl (· ++ ·) z = z ++ (List.replicate n a).flatten.toArray
  | 0, z => by simp
  | n + 1, z => by
    rw [List.replicate_succ, List.foldl_cons, foldl_arr a n, List.replicate_succ, List.flatten_cons, Array.append_assoc]
    simp
def rRepS : R2 := fun x y H Q => ∃ a k, x = .str (strV a) ∧ y = .int k ∧ 0 ≤ k ∧ k ≤ 1000 ∧ a.length ≤ 10000 ∧ Q (.str (strV (List.replicate k.toNat a).flatten)) H
theorem op_repS : OpR X (binaryOp .Mult) rRepS := by
  intro pins s σ H x y v u Q I rx ry h
  obtain ⟨w, k, rfl, rfl, h0, h1, hl, q⟩ := h
  obtain ⟨t, rfl⟩ := rx
  obtain ⟨t', rfl⟩ := ry
  have ln : (strV w).length = w.length := by show w.toArray.size = _; simp
  have mm : w.length * k.toNat ≤ 10000 * 1000 := Nat.mul_le_mul hl (by omega)
  have nl : PySem.Builtin.Str.tooLong ((strV w).length * k.toNat) = false := by
    rw [ln]; unfold PySem.Builtin.Str.tooLong; rw [sizeLine_eq]; simp; omega
  refine PySem.P.mul_str (by
    have a1 : ¬ k < -(2 ^ 63 : Int) := by omega
    have a2 : ¬ k ≥ 2 ^ 63 := by omega
    rw [decide_eq_false a1, decide_eq_false a2]; rfl) (fun hk _ => ?_) (fun _ _ => nl) ?_
  · rw [ln]
    have hk' : 0 < k := by omega
    have := (Int.le_ediv_iff_mul_le (a := (w.length : Int)) (b := 2 ^ 63 - 1) hk').mpr (by
      have e : (w.length : Int) * k = ((w.length * k.toNat : Nat) : Int) := by rw [Int.natCast_mul, Int.toNat_of_nonneg h0]
      rw [e]; omega)
    omega
  · by_cases c1 : k < 1
    · rw [if_pos c1]
      have : k = 0 := by omega
      subst this
      exact ⟨by decide, ⟨.str _, H, I.tok _, ⟨_, rfl⟩, q⟩⟩
    · rw [if_neg c1]
      by_cases c2 : (k == 1 || (strV w).length == 0) = true
      · rw [if_pos c2]
        have e : (List.replicate k.toNat w).flatten = w := by
          rw [Bool.or_eq_true, beq_iff_eq, beq_iff_eq, ln] at c2
          rcases c2 with c2 | c2
          · subst c2; simp
          · have := List.eq_nil_of_length_eq_zero c2
            subst this; simp
        rw [e] at q
        exact ⟨.str _, H, I.tok _, ⟨_, rfl⟩, q⟩
      · rw [if_neg c2]
        have e : (⟨(List.replicate k.toNat (strV w).cps).foldl (· ++ ·) #[]⟩ : Str) = strV (List.replicate k.toNat w).flatten := by
          show (⟨(List.replicate k.toNat w.toArray).foldl (· ++ ·) #[]⟩ : Str) = ⟨_⟩
          rw [foldl_arr]; simp
        rw [e]
        exact ⟨by
          show (List.replicate k.toNat w).flatten.toArray.size ≤ _
          rw [sizeLine_eq]; simp [List.length_flatten]; rw [Nat.mul_comm]; omega, ⟨.str _, H, I.tok _, ⟨_, rfl⟩, q⟩⟩
theorem tuple_mul1 (l : Addr) (items : Array Value) (n : Nat) (dd : Option Addr) (sl : Array (Option Value)) (u : Tok) :
    Meets (Builtin.«tuple.__mul__» ⟨[.ref l, .int 1 u], []⟩) (fun _ R s => s.heap.get? l = some { cls := .type "tuple", dict := dd, data := .seq items n, slots := sl } ∧ R (.ok (.ret (Value.ref l))) s) :=
  .of_wp fun prog w A R s h => by
    obtain ⟨hp, g, d, tk, os⟩ := s
    obtain ⟨hl, h⟩ := h
    have f1 := AutoSeq1.idx_int
    wp_walk using wpAny_loadPart' hl
    exact ⟨_, rfl, h⟩
def rRepT1 (K : PySem.W.Frag) : R2 := fun x y H Q => ∃ l xs, x = .ref l ∧ y = .int 1 ∧ SqT K H l xs ∧ Q (.ref l) H
theorem op_repT1 : OpR X (binaryOp .Mult) (rRepT1 X.K) := by
  intro pins s σ H x y v u Q I rx ry h
  obtain ⟨l, xs, rfl, rfl, hT, q⟩ := h
  cases rx
  obtain ⟨t, rfl⟩ := ry
  obtain ⟨its, r, ⟨⟨cls, dd, data, sl⟩, ho, hc, n, hd⟩, hs⟩ := I.tuple hT
  simp only at hc hd
  subst hc hd
  refine wpAny_binaryOp_repeat_ref (T := "tuple") (U := "int") (by decide) ⟨_, ho, rfl⟩ (fun s' => typeIs_int s' 1 t) noFill_tuple_mul F.fills_int_mul F.slot_int_rmul repeat_tuple F.slot_int_index.lookup
    (call_meets F.slot_int_rmul (typeIs_int s 1 t) F.entry_int_rmul (F.args_int_rmul_2 _ _) (int_rmul_tuple 1 t l its.toArray n dd sl)
      ⟨ho, rfl, ⟨_, ho, rfl⟩, call_meets F.slot_tuple_mul ⟨_, ho, rfl⟩ F.entry_tuple_mul (F.args_tuple_mul_2 _ _) (tuple_mul1 l its.toArray n dd sl t) ⟨ho, ?_⟩⟩)
  exact ⟨.ref l, H, I, rfl, q⟩
def rMulAll (K : PySem.W.Frag) : R2 := fun x y H Q => rI CMul (fun i j => .int (i * j)) x y H Q ∨ rRep x y H Q ∨ rRepT K x y H Q ∨ rRepS x y H Q ∨ rRepT1 K x y H Q
theorem op_mulAll : OpR X (binaryOp .Mult) (rMulAll X.K) := OpR.or op_mul (OpR.or op_rep (OpR.or op_repT (OpR.or op_repS op_repT1)))
theorem me_mul (hK : X.K = G.K) (ha : PE X a (tE G W ma)) (hb : PE X b (tE G W mb)) : PE X (.BinOp a .Mult b pos) (tE G W (mOp dMul ma mb)) := by
  refine me_op op_mulAll ?_ ha hb
  intro et H h x y v w W Q rx ry R p
  rw [hK]
  unfold dMul at p
  split at p
  · split at p
    · rename_i i j c
      refine .inl ⟨i, j, den_int.mp rx, den_int.mp ry, ?_, p.here R _ (by simp)⟩
      simpa [cMul, CMul] using c
    · exact p.elim
  · split at p
    · rename_i a k c
      exact .inr (.inr (.inr (.inl ⟨a, k, den_str.mp rx, den_int.mp ry, c.1, c.2.1, c.2.2, p.here R _ (by simp)⟩)))
    · exact p.elim
  · split at p
    · rename_i l k c
      obtain ⟨a, vs, rfl, h2, h3⟩ := den_tup.mp rx
      refine .inr (.inr (.inl ⟨a, k, vs, rfl, den_int.mp ry, h2, ?_, c.2.1, c.2.2.1, by rw [h3.len]; exact c.2.2.2, p.newT R (h3.flat _)⟩))
      rintro rfl
      have := h3.len
      simp at this
      omega
    · split at p
      · rename_i e1
        subst e1
        obtain ⟨a, vs, rfl, h2, h3⟩ := den_tup.mp rx
        exact .inr (.inr (.inr (.inr ⟨a, vs, rfl, den_int.mp ry, h2, p.here R _ rx⟩)))
      · exact p.elim
  · split at p
    · split at p
      · rename_i n k hh xs hx c
        obtain ⟨a, vs, h1, rfl, h2, h3⟩ := den_list R hx rx
        refine .inr (.inl ⟨a, k, vs, rfl, den_int.mp ry, h2, by omega, by omega, sz (by rw [h3.len]; exact c.2.2), ?_⟩)
        exact p.newL R (h3.flat _)
      · exact p.elim
    · exact p.elim
  · exact p.elim
def rAddAll (K : PySem.W.Frag) : R2 := fun x y H Q => rI0 (fun i j => .int (i + j)) x y H Q ∨ (∃ i j, x = .str i ∧ y = .str j ∧ i.length + j.length ≤ sizeLine ∧ Q (.str (i ++ j)) H) ∨ rCatA K x y H Q ∨ rCatR x y H Q
theorem op_addAll : OpR X (binaryOp .Add) (rAddAll X.K) := OpR.or op_add (OpR.or op_add_str (OpR.or op_catA op_catR))
theorem strV_app (a b : List Nat) : strV a ++ strV b = strV (a ++ b) := by
  show (⟨a.toArray ++ b.toArray⟩ : Str) = ⟨(a ++ b).toArray⟩
  simp
theorem dAdd_ok (hK : X.K = G.K) : OpS G (rAddAll X.K) dAdd := by
  intro et H h x y v w W Q rx ry R p
  rw [hK]
  unfold dAdd at p
  split at p
  · exact .inl ⟨_, _, den_int.mp rx, den_int.mp ry, p.here R _ (by simp)⟩
  · split at p
    · rename_i c
      refine .inr (.inl ⟨_, _, den_str.mp rx, den_str.mp ry, ?_, ?_⟩)
      · rw [strV_length, strV_length]; exact sz c
      · exact p.here R _ (by simp [strV_app])
    · exact p.elim
  · split at p
    · rename_i l m c
      obtain ⟨a, vs, rfl, h2, h3⟩ := den_tup.mp rx
      obtain ⟨b, ws, rfl, k2, k3⟩ := den_tup.mp ry
      refine .inr (.inr (.inl ⟨a, b, vs, ws, rfl, rfl, h2, k2, sz (by rw [h3.len, k3.len]; exact c), fun e => ?_, fun e1 e => ?_, fun _ _ => p.newT R (h3.app k3)⟩))
      · have hl : l = [] := by
          have := h3.len
          rw [e] at this
          exact List.eq_nil_of_length_eq_zero this.symm
        subst hl
        exact p.here R _ (den_tup.mpr ⟨b, ws, rfl, k2, k3⟩)
      · have hl : m = [] := by
          have := k3.len
          rw [e] at this
          exact List.eq_nil_of_length_eq_zero this.symm
        subst hl
        exact p.here R _ (den_tup.mpr ⟨a, vs, rfl, h2, by simpa using h3⟩)
    · exact p.elim
  · split at p
    · split at p
      · rename_i xs ys hx hy c
        obtain ⟨a, vs, rfl, h2, h3⟩ := ls_ok R hx rx
        obtain ⟨b, ws, rfl, k2, k3⟩ := ls_ok R hy ry
        exact .inr (.inr (.inr ⟨a, b, vs, ws, rfl, rfl, h2, k2, sz (by rw [h3.len, k3.len]; exact c), p.newL R (h3.app k3)⟩))
      · exact p.elim
    · exact p.elim
theorem me_add (hK : X.K = G.K) (ha : PE X a (tE G W ma)) (hb : PE X b (tE G W mb)) : PE X (.BinOp a .Add b pos) (tE G W (mOp dAdd ma mb)) := me_op op_addAll (dAdd_ok hK) ha hb
/-- order of ints -/
def dC (g : Int → Int → Bool) : D → D → IH → R D
  | .int i, .int j, h => .ok (.bl (g i j)) h
  | _, _, _ => .no
theorem opS_C {g : Int → Int → Bool} : OpS G (rI0 fun i j => .bl (g i j)) (dC g) := by
  intro et H h x y v w W Q rx ry R p
  unfold dC at p
  split at p
  · exact ⟨_, _, den_int.mp rx, den_int.mp ry, p.here R _ (by simp)⟩
  · exact p.elim
abbrev dLt := dC fun i j => decide (i < j)
abbrev dLe := dC fun i j => decide (i ≤ j)
abbrev dGt := dC fun i j => decide (j < i)
abbrev dGe := dC fun i j => decide (j ≤ i)
/-! ### as data -/
def D.py (h : IH) : Nat → D → Option PyData
  | 0, _ => none
  | k + 1, d => match d with
    | .non => some .none
    | .bl b => some (.bool b)
    | .int i => some (.int i)
    | .str s => some (.str (strV s))
    | .tup l => (allM (D.py h k) l).map .tuple
    | .fl l => (allM (D.py h k) l).map .list
    | .ref n => match h[n]? with
      | some (.lst xs) => (allM (D.py h k) xs).map .list
      | some (.frz xs) => (allM (D.py h k) xs).map .list
      | _ => none
    | _ => none
end
theorem allM_cons {A : Type} {f : D → Option A} {d : D} {ds : List D} {r : List A} (e : allM f (d :: ds) = some r) : ∃ a as, f d = some a ∧ allM f ds = some as ∧ r = a :: as := by
  unfold allM at e
  split at e
  · rename_i a as h1 h2
    cases e
    exact ⟨a, as, h1, h2, rfl⟩
  · cases e
section
variable {G : Cf} {et : List Addr} {H : Hp} {h : IH}
theorem depthAll_le {n : Nat} : ∀ {ps : List PyData}, (∀ p ∈ ps, p.depth ≤ n) → PyData.depthAll ps ≤ n
  | [], _ => by simp [PyData.depthAll]
  | p :: ps, hp => by
    have h1 := hp p (List.mem_cons_self)
    have h2 := depthAll_le (ps := ps) fun q hq => hp q (List.mem_cons_of_mem _ hq)
    simp only [PyData.depthAll]
    omega
theorem py_all (R : HRel G et h H) {k : Nat} (ih : ∀ (d : D) (v : V) (p : PyData), D.py h k d = some p → Den G et H d v → Dp G.K H v p ∧ p.plain = true ∧ p.depth ≤ k) :
    ∀ (ds : List D) (vs : List V) (ps : List PyData), allM (D.py h k) ds = some ps → DenL G et H ds vs → DpAll G.K H vs ps ∧ PyData.plainAll ps = true ∧ ∀ p ∈ ps, p.depth ≤ k
  | [], vs, ps, e, r => by
    simp only [allM, Option.some.injEq] at e
    rw [denL_nil] at r
    subst e r
    exact ⟨.nil, by simp [PyData.plainAll], by simp⟩
  | d :: ds, vs, ps, e, r => by
    obtain ⟨p, ps', e1, e2, rfl⟩ := allM_cons e
    obtain ⟨v, ws, rfl, r1, r2⟩ := denL_cons.mp r
    obtain ⟨a1, a2, a3⟩ := ih d v p e1 r1
    obtain ⟨b1, b2, b3⟩ := py_all R ih ds ws ps' e2 r2
    exact ⟨.cons a1 b1, by simp [PyData.plainAll, a2, b2], by simpa using ⟨a3, b3⟩⟩
theorem py_ok (R : HRel G et h H) : ∀ (k : Nat) (d : D) (v : V) (p : PyData), D.py h k d = some p → Den G et H d v → Dp G.K H v p ∧ p.plain = true ∧ p.depth ≤ k
  | 0, _, _, _, e, _ => by simp [D.py] at e
  | k + 1, d, v, p, e, r => by
    have ih := py_all R (py_ok R k)
    cases d with
    | non => simp only [D.py, Option.some.injEq] at e; subst e; rw [den_non.mp r]; exact ⟨.non, by simp [PyData.plain], by simp [PyData.depth]⟩
    | bl b => simp only [D.py, Option.some.injEq] at e; subst e; rw [den_bl.mp r]; exact ⟨.bl b, by simp [PyData.plain], by simp [PyData.depth]⟩
    | int i => simp only [D.py, Option.some.injEq] at e; subst e; rw [den_int.mp r]; exact ⟨.int i, by simp [PyData.plain], by simp [PyData.depth]⟩
    | str s => simp only [D.py, Option.some.injEq] at e; subst e; rw [den_str.mp r]; exact ⟨.str _, by simp [PyData.plain], by simp [PyData.depth]⟩
    | tup l =>
      simp only [D.py, Option.map_eq_some_iff] at e
      obtain ⟨ps, e1, rfl⟩ := e
      obtain ⟨a, vs, rfl, r1, r2⟩ := den_tup.mp r
      obtain ⟨b1, b2, b3⟩ := ih l vs ps e1 r2
      exact ⟨.tup r1 b1, by simp [PyData.plain, b2], by simp only [PyData.depth]; have := depthAll_le b3; omega⟩
    | ref n =>
      obtain ⟨a, r1, rfl⟩ := den_ref.mp r
      simp only [D.py] at e
      split at e
      · rename_i xs hx
        simp only [Option.map_eq_some_iff] at e
        obtain ⟨ps, e1, rfl⟩ := e
        obtain ⟨vs, c1, c2⟩ := R.cell n _ a hx r1
        obtain ⟨b1, b2, b3⟩ := ih xs vs ps e1 c2
        exact ⟨.lst (SqL.of c1) b1, by simp [PyData.plain, b2], by simp only [PyData.depth]; have := depthAll_le b3; omega⟩
      · rename_i xs hx
        simp only [Option.map_eq_some_iff] at e
        obtain ⟨ps, e1, rfl⟩ := e
        obtain ⟨vs, c1, c2⟩ := R.cell n _ a hx r1
        obtain ⟨b1, b2, b3⟩ := ih xs vs ps e1 c2
        exact ⟨.lst c1.sq b1, by simp [PyData.plain, b2], by simp only [PyData.depth]; have := depthAll_le b3; omega⟩
      · cases e
    | fl l =>
      simp only [D.py, Option.map_eq_some_iff] at e
      obtain ⟨ps, e1, rfl⟩ := e
      obtain ⟨a, vs, rfl, r1, r2⟩ := den_fl.mp r
      obtain ⟨b1, b2, b3⟩ := ih l vs ps e1 r2
      exact ⟨.lst r1.sq b1, by simp [PyData.plain, b2], by simp only [PyData.depth]; have := depthAll_le b3; omega⟩
    | fd ks l => simp [D.py] at e
    | exc a => simp [D.py] at e
end
def rEqP (K : PySem.W.Frag) : R2 := fun x y H Q => ∃ d e, Dp K H x d ∧ Dp K H y e ∧ d.plain = true ∧ e.plain = true ∧ d.depth ≤ 50 ∧ Q (.bl (PyData.eqv d e)) H
def rNeP (K : PySem.W.Frag) : R2 := fun x y H Q => ∃ d e, Dp K H x d ∧ Dp K H y e ∧ d.plain = true ∧ e.plain = true ∧ d.depth ≤ 50 ∧ Q (.bl (!PyData.eqv d e)) H
section
variable {X : Cx}
theorem op_eqP (hu : X.A.units + 64 < cLine) : OpR X (compareOp .Eq) (rEqP X.K) := by
  intro pins s σ H x y v u Q I rx ry h
  obtain ⟨d, e, hd, he, pd, pe, dd, q⟩ := h
  obtain ⟨as, r1⟩ := Dp.reads I d x v hd rx
  obtain ⟨bs, r2⟩ := Dp.reads I e y u he ry
  exact SeqAt.eq_plain r1 r2 pd pe (by omega) ⟨.bl _, H, I, rfl, q⟩
theorem op_neP (hu : X.A.units + 64 < cLine) : OpR X (compareOp .NotEq) (rNeP X.K) := by
  intro pins s σ H x y v u Q I rx ry h
  obtain ⟨d, e, hd, he, pd, pe, dd, q⟩ := h
  obtain ⟨as, r1⟩ := Dp.reads I d x v hd rx
  obtain ⟨bs, r2⟩ := Dp.reads I e y u he ry
  exact SeqAt.ne_plain r1 r2 pd pe (by omega) ⟨.bl _, H, I, rfl, q⟩
def rInP (K : PySem.W.Frag) (neg : Bool) : R2 := fun x y H Q => ∃ d es, Dp K H x d ∧ (Dp K H y (.list es) ∨ Dp K H y (.tuple es)) ∧ d.plain = true ∧ PyData.plainAll es = true ∧ d.depth ≤ 50 ∧
  Q (.bl (if neg then !(es.any fun z => PyData.eqv z d) else es.any fun z => PyData.eqv z d)) H
theorem op_inP (hu : X.A.units + 64 < cLine) : OpR X (compareOp .In) (rInP X.K false) := by
  intro pins s σ H x y v u Q I rx ry h
  obtain ⟨d, es, hd, he, pd, pe, dd, q⟩ := h
  obtain ⟨as, r1⟩ := Dp.reads I d x v hd rx
  rcases he with he | he
  · obtain ⟨bs, r2⟩ := Dp.reads I _ y u he ry
    exact SeqAt.in_list_data r2 r1 pe pd (by omega) ⟨.bl _, H, I, rfl, by simpa using q⟩
  · obtain ⟨bs, r2⟩ := Dp.reads I _ y u he ry
    exact SeqAt.in_tuple_data r2 r1 pe pd (by omega) ⟨.bl _, H, I, rfl, by simpa using q⟩
theorem op_notInP (hu : X.A.units + 64 < cLine) : OpR X (compareOp .NotIn) (rInP X.K true) := by
  intro pins s σ H x y v u Q I rx ry h
  obtain ⟨d, es, hd, he, pd, pe, dd, q⟩ := h
  obtain ⟨as, r1⟩ := Dp.reads I d x v hd rx
  rcases he with he | he
  · obtain ⟨bs, r2⟩ := Dp.reads I _ y u he ry
    exact SeqAt.notIn_list_data r2 r1 pe pd (by omega) ⟨.bl _, H, I, rfl, by simpa using q⟩
  · obtain ⟨bs, r2⟩ := Dp.reads I _ y u he ry
    exact SeqAt.notIn_tuple_data r2 r1 pe pd (by omega) ⟨.bl _, H, I, rfl, by simpa using q⟩
end
def dEq (neg : Bool) : D → D → IH → R D := fun x y h => match D.py h 50 x, D.py h 50 y with
  | some a, some b => .ok (.bl (if neg then !PyData.eqv a b else PyData.eqv a b)) h
  | _, _ => .no
/-- x in y: a sign in a text, a datum in a list or a tuple -/
def dIn (neg : Bool) : D → D → IH → R D := fun x y h => match x, y with
  | .str [c], .str z => .ok (.bl (if neg then !decide (c ∈ z) else decide (c ∈ z))) h
  | x, y => match D.py h 50 x, (seqOf h y).bind (allM (D.py h 49)) with
    | some a, some bs => .ok (.bl (if neg then !(bs.any fun z => PyData.eqv z a) else bs.any fun z => PyData.eqv z a)) h
    | _, _ => .no
def dIsN (neg : Bool) : D → D → IH → R D := fun x y h => match y with
  | .non => match x with
    | .non => .ok (.bl (!neg)) h
    | _ => .ok (.bl neg) h
  | .bl b => match x with
    | .bl a => .ok (.bl (if neg then !decide (a = b) else decide (a = b))) h
    | _ => .no
  | _ => .no
section
variable {X : Cx} {G : Cf} {W : WX} {a b c e : Expr} {ma mb mc : ME} {pos : Pos}
theorem dEq_ok (hK : X.K = G.K) : OpS G (rEqP X.K) (dEq false) := by
  intro et H h x y v w W Q rx ry R p
  unfold dEq at p
  split at p
  · rename_i d1 d2 e1 e2
    obtain ⟨a1, a2, a3⟩ := py_ok R 50 x v d1 e1 rx
    obtain ⟨b1, b2, b3⟩ := py_ok R 50 y w d2 e2 ry
    rw [hK]
    exact ⟨d1, d2, a1, b1, a2, b2, a3, p.here R _ (by simp)⟩
  · exact p.elim
theorem dNe_ok (hK : X.K = G.K) : OpS G (rNeP X.K) (dEq true) := by
  intro et H h x y v w W Q rx ry R p
  unfold dEq at p
  split at p
  · rename_i d1 d2 e1 e2
    obtain ⟨a1, a2, a3⟩ := py_ok R 50 x v d1 e1 rx
    obtain ⟨b1, b2, b3⟩ := py_ok R 50 y w d2 e2 ry
    rw [hK]
    exact ⟨d1, d2, a1, b1, a2, b2, a3, p.here R _ (by simp)⟩
  · exact p.elim
def rInA (K : PySem.W.Frag) (neg : Bool) : R2 := fun x y H Q => (∃ (c : Nat) (z : Str), x = .str ⟨#[c]⟩ ∧ y = .str z ∧ Q (.bl (if neg then !decide (c ∈ z.cps.toList) else decide (c ∈ z.cps.toList))) H) ∨ rInP K neg x y H Q
theorem op_inA (hu : X.A.units + 64 < cLine) : OpR X (compareOp .In) (rInA X.K false) := by
  intro pins s σ H x y v u Q I rx ry h
  rcases h with ⟨c, z, h1, h2, q⟩ | h
  · exact op_in_sign pins s σ H x y v u Q I rx ry ⟨c, z, h1, h2, by simpa using q⟩
  · exact op_inP hu pins s σ H x y v u Q I rx ry h
theorem op_notInA (hu : X.A.units + 64 < cLine) : OpR X (compareOp .NotIn) (rInA X.K true) := by
  intro pins s σ H x y v u Q I rx ry h
  rcases h with ⟨c, z, h1, h2, q⟩ | h
  · exact op_notIn_sign pins s σ H x y v u Q I rx ry ⟨c, z, h1, h2, by simpa using q⟩
  · exact op_notInP hu pins s σ H x y v u Q I rx ry h
theorem dIn_ok (hK : X.K = G.K) (neg : Bool) : OpS G (rInA X.K neg) (dIn neg) := by
  intro et H h x y v w W Q rx ry R p
  unfold dIn at p
  split at p
  · rename_i c z
    refine .inl ⟨c, strV z, den_str.mp rx, den_str.mp ry, ?_⟩
    have h1 : decide (c ∈ (strV z).cps.toList) = decide (c ∈ z) := decide_eq_decide.mpr (by simp [strV])
    rw [h1]
    exact p.here R _ (by simp)
  · split at p
    · rename_i d es e1 e2
      obtain ⟨a1, a2, a3⟩ := py_ok R 50 x v d e1 rx
      simp only [Option.bind_eq_some_iff] at e2
      obtain ⟨ds, e3, e4⟩ := e2
      obtain ⟨q, vs, rfl, s1, s2⟩ := seq_ok R e3 ry
      obtain ⟨b1, b2, b3⟩ := py_all R (py_ok R 49) ds vs es e4 s2
      rw [hK]
      refine .inr ⟨d, es, a1, ?_, a2, b2, a3, p.here R _ (by simp)⟩
      rcases s1 with s1 | s1
      · exact .inl (.lst s1 b1)
      · exact .inr (.tup s1 b1)
    · exact p.elim
theorem op_isA : OpR X (compareOp .Is) (fun x y H Q => (y = .non ∧ Q (.bl (decide (x = .non))) H) ∨ rIsB x y H Q) := OpR.or op_isN op_isBl
theorem op_isnotA : OpR X (compareOp .IsNot) (fun x y H Q => (y = .non ∧ Q (.bl (!decide (x = .non))) H) ∨ rNotB x y H Q) := OpR.or op_notN op_notBl
theorem den_nn {et : List Addr} {H : Hp} {x : D} {v : V} (n : x ≠ .non) (r : Den G et H x v) : v ≠ .non := by
  cases x with
  | non => exact absurd rfl n
  | bl b => rw [den_bl.mp r]; exact fun z => nomatch z
  | int b => rw [den_int.mp r]; exact fun z => nomatch z
  | str b => rw [den_str.mp r]; exact fun z => nomatch z
  | tup l => obtain ⟨a, vs, e, _⟩ := den_tup.mp r; rw [e]; exact fun z => nomatch z
  | ref n => obtain ⟨a, _, e⟩ := den_ref.mp r; rw [e]; exact fun z => nomatch z
  | exc a => rw [show v = .ref a by simpa [Den] using r]; exact fun z => nomatch z
  | fl l => obtain ⟨a, vs, e, _⟩ := den_fl.mp r; rw [e]; exact fun z => nomatch z
  | fd ks l => obtain ⟨a, vs, e, _⟩ := den_fd.mp r; rw [e]; exact fun z => nomatch z
theorem dIs_ok : OpS G (fun x y H Q => (y = .non ∧ Q (.bl (decide (x = .non))) H) ∨ rIsB x y H Q) (dIsN false) := by
  intro et H h x y v w W Q rx ry R p
  unfold dIsN at p
  split at p
  · split at p
    · refine .inl ⟨den_non.mp ry, ?_⟩
      exact p.here R _ (by simp [den_non.mp rx])
    · rename_i hn
      refine .inl ⟨den_non.mp ry, ?_⟩
      exact p.here R _ (by simpa using den_nn hn rx)
  · split at p
    · exact .inr ⟨_, _, den_bl.mp rx, den_bl.mp ry, p.here R _ (by simp)⟩
    · exact p.elim
  · exact p.elim
theorem dIsnot_ok : OpS G (fun x y H Q => (y = .non ∧ Q (.bl (!decide (x = .non))) H) ∨ rNotB x y H Q) (dIsN true) := by
  intro et H h x y v w W Q rx ry R p
  unfold dIsN at p
  split at p
  · split at p
    · refine .inl ⟨den_non.mp ry, ?_⟩
      exact p.here R _ (by simp [den_non.mp rx])
    · rename_i hn
      refine .inl ⟨den_non.mp ry, ?_⟩
      exact p.here R _ (by simpa using den_nn hn rx)
  · split at p
    · exact .inr ⟨_, _, den_bl.mp rx, den_bl.mp ry, p.here R _ (by simp)⟩
    · exact p.elim
  · exact p.elim
end
end NR

set_option Elab.async false
set_option linter.all false
set_option maxRecDepth 100000
/-! Tests, calls, statements. -/
namespace NR
open PySem PySem.Spec PyProof.Rows L2

/-! ### truth, tests -/
def truD (h : IH) : D → Option Bool
  | .non => some false
  | .bl b => some b
  | .int i => some (i != 0)
  | .str s => if s.length ≤ 10000000 then some ((s.length : Int) != 0) else none
  | .tup l => some (!l.isEmpty)
  | .fl l => some (!l.isEmpty)
  | .ref n => match h[n]? with
    | some (.lst xs) => some (!xs.isEmpty)
    | some (.frz xs) => some (!xs.isEmpty)
    | some (.dk kvs) => some (!kvs.isEmpty)
    | _ => none
  | _ => none
theorem empty_iff {G : Cf} {et : List Addr} {H : Hp} {xs : List D} {vs : List V} (r : DenL G et H xs vs) : xs.isEmpty = vs.isEmpty := by
  have := r.len
  cases xs <;> cases vs <;> simp at this ⊢
theorem tru_okD {G : Cf} {et : List Addr} {H : Hp} {h : IH} (R : HRel G et h H) {d : D} {v : V} {b : Bool} (e : truD h d = some b) (r : Den G et H d v) : TruV G.K v H b := by
  cases d with
  | non => rw [den_non.mp r]; simp only [truD, Option.some.injEq] at e; exact e.symm
  | bl c => rw [den_bl.mp r]; simp only [truD, Option.some.injEq] at e; exact e.symm
  | int c => rw [den_int.mp r]; simp only [truD, Option.some.injEq] at e; exact e.symm
  | str s =>
    rw [den_str.mp r]
    simp only [truD] at e
    split at e
    · rename_i c
      cases e
      exact ⟨by rw [strV_length]; exact sz c, by rw [strV_length]⟩
    · cases e
  | tup l =>
    obtain ⟨a, vs, rfl, h1, h2⟩ := den_tup.mp r
    simp only [truD, Option.some.injEq] at e
    exact .inr (.inl ⟨vs, h1, by rw [← e, empty_iff h2]⟩)
  | ref n =>
    obtain ⟨a, h1, rfl⟩ := den_ref.mp r
    simp only [truD] at e
    split at e
    · rename_i xs hx
      cases e
      obtain ⟨vs, h2, h3⟩ := R.cell n _ a hx h1
      exact .inl ⟨vs, SqL.of h2, by rw [empty_iff h3]⟩
    · rename_i xs hx
      cases e
      obtain ⟨vs, h2, h3⟩ := R.cell n _ a hx h1
      exact .inl ⟨vs, h2.sq, by rw [empty_iff h3]⟩
    · rename_i kvs hx
      cases e
      obtain ⟨ws, h2, h3, h4⟩ := R.cell n _ a hx h1
      refine .inr (.inr ⟨ws, h2, ?_⟩)
      have := congrArg List.length h3
      simp at this
      cases kvs <;> cases ws <;> simp at this ⊢
    · cases e
  | fl l =>
    obtain ⟨a, vs, rfl, h1, h2⟩ := den_fl.mp r
    simp only [truD, Option.some.injEq] at e
    exact .inl ⟨vs, h1.sq, by rw [← e, empty_iff h2]⟩
  | fd ks l => simp [truD] at e
  | exc a => simp [truD] at e
def R.ofO {A : Type} (o : Option A) (h : IH) : R A := match o with
  | some a => .ok a h
  | none => .no
def mTr (m : ME) : MT := fun env h => (m env h).bind fun d h1 => R.ofO (truD h1 d) h1
def mTb (m : ME) : MT := fun env h => (m env h).bind fun d h1 => R.ofO d.bl? h1
def mAnd (a b : MT) : MT := fun env h => (a env h).bind fun c h1 => if c = true then b env h1 else .ok false h1
def mOr (a b : MT) : MT := fun env h => (a env h).bind fun c h1 => if c = true then .ok true h1 else b env h1
def mNot (a : MT) : MT := fun env h => (a env h).bind fun c h1 => .ok (!c) h1
def mAndV (a b : ME) : ME := fun env h => (a env h).bind fun x h1 => match x with
  | .bl true => b env h1
  | .bl false => .ok (.bl false) h1
  | _ => .no
def mOrV (a b : ME) : ME := fun env h => (a env h).bind fun x h1 => match x with
  | .bl true => .ok (.bl true) h1
  | .bl false => b env h1
  | _ => .no
def mNotV (a : ME) : ME := fun env h => (a env h).bind fun x h1 => match x with
  | .bl b => .ok (.bl (!b)) h1
  | _ => .no
def mIf (t : MT) (a b : ME) : ME := fun env h => (t env h).bind fun c h1 => if c = true then a env h1 else b env h1
def mChain (f g : D → D → IH → R D) (a b c : ME) : ME := fun env h => (a env h).bind fun x h1 => (b env h1).bind fun y h2 => (f x y h2).bind fun z h3 => match z with
  | .bl true => (c env h3).bind fun w h4 => g y w h4
  | .bl false => .ok (.bl false) h3
  | _ => .no
section
variable {X : Cx} {G : Cf} {W : WX} {a b c e : Expr} {ma mb mc : ME} {ta tb : MT} {pos : Pos} {rest : List Expr} {r r' : R2} {f g : D → D → IH → R D}
theorem mt_val (hK : X.K = G.K) (h : PE X a (tE G W ma)) (he : ∀ whole, isTrue a X.env whole = (do let v ← whole; standAt a.pos; holding [v] (truthy v)) := by intro _; rfl) : PT X a (tT G W (mTr ma)) :=
  PT.imp (pt_truth h he) fun σ H Q ⟨et, env, h, hE, hH, hP⟩ => by
    refine ⟨et, env, h, hE, hH, (Pst.of_bind hP).imp fun et1 H1 h1 d p e hr q v hv => ?_⟩
    cases ht : truD h1 d with
    | none => simp only [ht, R.ofO] at q; exact q.elim
    | some k =>
      simp only [ht, R.ofO] at q
      rw [hK]
      exact ⟨k, tru_okD hr ht hv, q.here hr⟩
theorem mt_cmp {op : CmpOp} (ho : OpR X (compareOp op) r) (hs : OpS G r f) (ha : PE X a (tE G W ma)) (hb : PE X b (tE G W mb)) (hm : behindInMarks op b = false := by first | exact nomark _ | rfl) : PT X (.Compare a [op] [b] pos) (tT G W (mTb (mOp f ma mb))) :=
  PT.imp (pt_cmpR ho ha hb hm) fun σ H Q ⟨et, env, h, hE, hH, hP⟩ => by
    refine tOp_of hs ⟨et, env, h, hE, hH, (Pst.of_bind hP).imp fun et1 H1 h1 d p e hr q v hv => ?_⟩
    cases d with
    | bl k => exact ⟨k, den_bl.mp hv, q.here hr⟩
    | _ => exact q.elim
theorem tChain_of {σ : L2.St} {H : Hp} {Q : VK} (hs : OpS G r f) (hs' : OpS G r' g) (x : tE G W (mChain f g ma mb mc) σ H Q) : tChain r r' (tE G W ma) (tE G W mb) (tE G W mc) σ H Q := by
  obtain ⟨et, env, h, hE, hH, hP⟩ := x
  refine ⟨et, env, h, hE, hH, (Pst.of_bind hP).imp fun et1 H1 h1 x p e hr q v hv => ?_⟩
  refine ⟨et1, env, h1, hE.mono p e, hr, (Pst.of_bind q).imp fun et2 H2 h2 y p2 e2 hr2 q2 w hw => ?_⟩
  refine hs et2 H2 h2 x y v w _ _ (hv.mono p2 e2) hw hr2 ((Pst.of_bind q2).imp fun et3 H3 h3 z p3 e3 hr3 q3 vz hz => ?_)
  cases z with
  | bl k =>
    refine ⟨k, den_bl.mp hz, ?_⟩
    cases k with
    | true =>
      rw [if_pos rfl]
      refine ⟨et3, env, h3, ((hE.mono p e).mono p2 e2).mono p3 e3, hr3, (Pst.of_bind q3).imp fun et4 H4 h4 u p4 e4 hr4 q4 vu hu => ?_⟩
      exact hs' et4 H4 h4 y u w vu _ Q ((hw.mono p3 e3).mono p4 e4) hu hr4 q4
    | false =>
      rw [if_neg Bool.false_ne_true]
      exact q3.here hr3 _ (by simp)
  | _ => exact q3.elim
theorem me_chain {op op' : CmpOp} (ho : OpR X (compareOp op) r) (hs : OpS G r f) (ho' : OpR X (compareOp op') r') (hs' : OpS G r' g) (ha : PE X a (tE G W ma)) (hb : PE X b (tE G W mb)) (hc : PE X c (tE G W mc)) (hm : lastMarks [op, op'] [b, c] = false := by rfl) :
    PE X (.Compare a [op, op'] [b, c] pos) (tE G W (mChain f g ma mb mc)) := PE.imp (pe_chain ho ho' ha hb hc hm) fun _ _ _ x => tChain_of hs hs' x
theorem mt_chain {op op' : CmpOp} (ho : OpR X (compareOp op) r) (hs : OpS G r f) (ho' : OpR X (compareOp op') r') (hs' : OpS G r' g) (ha : PE X a (tE G W ma)) (hb : PE X b (tE G W mb)) (hc : PE X c (tE G W mc)) (hm : lastMarks [op, op'] [b, c] = false := by rfl) :
    PT X (.Compare a [op, op'] [b, c] pos) (tT G W (mTb (mChain f g ma mb mc))) := PT.imp (pt_chain ho ho' ha hb hc hm) fun σ H Q ⟨et, env, h, hE, hH, hP⟩ => by
    refine tChain_of hs hs' ⟨et, env, h, hE, hH, (Pst.of_bind hP).imp fun et1 H1 h1 d p e hr q v hv => ?_⟩
    cases d with
    | bl k => exact ⟨k, den_bl.mp hv, q.here hr⟩
    | _ => exact q.elim
theorem tAnd_of {σ : L2.St} {H : Hp} {Q : Bool → Hp → Prop} (x : tT G W (mAnd ta tb) σ H Q) : tAnd (tT G W ta) (tT G W tb) σ H Q := by
  obtain ⟨et, env, h, hE, hH, hP⟩ := x
  refine ⟨et, env, h, hE, hH, (Pst.of_bind hP).imp fun et1 H1 h1 k p e hr q => ?_⟩
  cases k with
  | true =>
    rw [if_pos rfl] at q ⊢
    exact ⟨et1, env, h1, hE.mono p e, hr, q⟩
  | false =>
    rw [if_neg Bool.false_ne_true] at q ⊢
    exact q.here hr
theorem tOr_of {σ : L2.St} {H : Hp} {Q : Bool → Hp → Prop} (x : tT G W (mOr ta tb) σ H Q) : tOr (tT G W ta) (tT G W tb) σ H Q := by
  obtain ⟨et, env, h, hE, hH, hP⟩ := x
  refine ⟨et, env, h, hE, hH, (Pst.of_bind hP).imp fun et1 H1 h1 k p e hr q => ?_⟩
  cases k with
  | true =>
    rw [if_pos rfl] at q ⊢
    exact q.here hr
  | false =>
    rw [if_neg Bool.false_ne_true] at q ⊢
    exact ⟨et1, env, h1, hE.mono p e, hr, q⟩
theorem mw_and1 (ha : PT X a (tT G W ta)) : PW X (.BoolOp .And [a] pos) (tT G W ta) := pw_and1 ha
theorem mw_or1 (ha : PT X a (tT G W ta)) : PW X (.BoolOp .Or [a] pos) (tT G W ta) := pw_or1 ha
theorem mw_and (ha : PT X a (tT G W ta)) (hb : PW X (.BoolOp .And (b :: rest) pos) (tT G W tb)) : PW X (.BoolOp .And (a :: b :: rest) pos) (tT G W (mAnd ta tb)) := PW.imp (pw_and ha hb) fun _ _ _ x => tAnd_of x
theorem mw_or (ha : PT X a (tT G W ta)) (hb : PW X (.BoolOp .Or (b :: rest) pos) (tT G W tb)) : PW X (.BoolOp .Or (a :: b :: rest) pos) (tT G W (mOr ta tb)) := PW.imp (pw_or ha hb) fun _ _ _ x => tOr_of x
theorem mt_not (ha : PT X a (tT G W ta)) : PT X (.UnaryOp .Not a pos) (tT G W (mNot ta)) := PT.imp (pt_not ha) fun σ H Q ⟨et, env, h, hE, hH, hP⟩ =>
  ⟨et, env, h, hE, hH, (Pst.of_bind hP).imp fun et1 H1 h1 k p e hr q => q.here hr⟩
theorem me_one {op} (h : PE X a (tE G W ma)) : PE X (.BoolOp op [a] pos) (tE G W ma) := pe_one h
theorem me_and (ha : PE X a (tE G W ma)) (hb : PE X (.BoolOp .And (b :: rest) pos) (tE G W mb)) : PE X (.BoolOp .And (a :: b :: rest) pos) (tE G W (mAndV ma mb)) := PE.imp (pe_and ha hb) fun σ H Q ⟨et, env, h, hE, hH, hP⟩ => by
  refine ⟨et, env, h, hE, hH, (Pst.of_bind hP).imp fun et1 H1 h1 d p e hr q v hv => ?_⟩
  cases d with
  | bl k =>
    refine ⟨k, den_bl.mp hv, ?_⟩
    cases k with
    | true => rw [if_pos rfl]; exact ⟨et1, env, h1, hE.mono p e, hr, q⟩
    | false => rw [if_neg Bool.false_ne_true]; exact q.here hr _ (by simp)
  | _ => exact q.elim
theorem me_or (ha : PE X a (tE G W ma)) (hb : PE X (.BoolOp .Or (b :: rest) pos) (tE G W mb)) : PE X (.BoolOp .Or (a :: b :: rest) pos) (tE G W (mOrV ma mb)) := PE.imp (pe_or ha hb) fun σ H Q ⟨et, env, h, hE, hH, hP⟩ => by
  refine ⟨et, env, h, hE, hH, (Pst.of_bind hP).imp fun et1 H1 h1 d p e hr q v hv => ?_⟩
  cases d with
  | bl k =>
    refine ⟨k, den_bl.mp hv, ?_⟩
    cases k with
    | true => rw [if_pos rfl]; exact q.here hr _ (by simp)
    | false => rw [if_neg Bool.false_ne_true]; exact ⟨et1, env, h1, hE.mono p e, hr, q⟩
  | _ => exact q.elim
theorem me_not (ha : PE X a (tE G W ma)) : PE X (.UnaryOp .Not a pos) (tE G W (mNotV ma)) := PE.imp (pe_not ha) fun σ H Q ⟨et, env, h, hE, hH, hP⟩ => by
  refine ⟨et, env, h, hE, hH, (Pst.of_bind hP).imp fun et1 H1 h1 d p e hr q v hv => ?_⟩
  cases d with
  | bl k => exact ⟨k, den_bl.mp hv, q.here hr _ (by simp)⟩
  | _ => exact q.elim
theorem me_ifExp (hc : PT X c (tT G W ta)) (ha : PE X a (tE G W ma)) (hb : PE X b (tE G W mb)) : PE X (.IfExp c a b pos) (tE G W (mIf ta ma mb)) := PE.imp (pe_ifExp hc ha hb) fun σ H Q ⟨et, env, h, hE, hH, hP⟩ => by
  refine ⟨et, env, h, hE, hH, (Pst.of_bind hP).imp fun et1 H1 h1 k p e hr q => ?_⟩
  cases k with
  | true => rw [if_pos rfl] at q ⊢; exact ⟨et1, env, h1, hE.mono p e, hr, q⟩
  | false => rw [if_neg Bool.false_ne_true] at q ⊢; exact ⟨et1, env, h1, hE.mono p e, hr, q⟩
def mNeg (a : ME) : ME := fun env h => (a env h).bind fun x h1 => match x with
  | .int i => .ok (.int (-i)) h1
  | _ => .no
theorem me_neg (ha : PE X a (tE G W ma)) : PE X (.UnaryOp .USub a pos) (tE G W (mNeg ma)) := PE.imp (pe_un un_neg ha) fun σ H Q ⟨et, env, h, hE, hH, hP⟩ => by
  refine ⟨et, env, h, hE, hH, (Pst.of_bind hP).imp fun et1 H1 h1 d p e hr q v hv => ?_⟩
  cases d with
  | int k => exact ⟨k, den_int.mp hv, q.here hr _ (by simp)⟩
  | _ => exact q.elim
end

/-! ### arguments, displays -/
def mNil : MA := fun _ h => .ok [] h
def mCons (a : ME) (t : MA) : MA := fun env h => (a env h).bind fun x h1 => (t env h1).bind fun xs h2 => .ok (x :: xs) h2
def mTup (t : MA) : ME := fun env h => (t env h).bind fun xs h1 => if xs.length ≤ 10000000 then .ok (.tup xs) h1 else .no
def mLst (t : MA) : ME := fun env h => (t env h).bind fun xs h1 => if xs.length ≤ 10000000 then .ok (.ref h1.length) (h1 ++ [.lst xs]) else .no
section
variable {X : Cx} {G : Cf} {W : WX} {a b c e : Expr} {es : List Expr} {ma mb mc : ME} {mt : MA} {pos : Pos}
theorem ma_nil : PA X [] (tA G W mNil) := PA.imp pa_nil fun σ H Q ⟨et, env, h, hE, hH, hP⟩ => hP.here hH [] (by simp)
theorem ma_cons (he : PE X e (tE G W ma)) (h : PA X es (tA G W mt)) (hs : starEach (e :: es) X.env = (false, eval e X.env) :: starEach es X.env := by rfl) : PA X (e :: es) (tA G W (mCons ma mt)) := PA.imp (pa_cons he h hs) fun σ H Q ⟨et, env, h, hE, hH, hP⟩ => by
  refine ⟨et, env, h, hE, hH, (Pst.of_bind hP).imp fun et1 H1 h1 x p e hr q v hv => ?_⟩
  refine ⟨et1, env, h1, hE.mono p e, hr, (Pst.of_bind q).imp fun et2 H2 h2 xs p2 e2 hr2 q2 ws hw => ?_⟩
  exact q2.here hr2 _ (denL_cons.mpr ⟨v, ws, rfl, hv.mono p2 e2, hw⟩)
theorem me_tup {k : Nat} (h : PA X es (tA G W mt)) : PE X (.Tuple es k pos) (tE G W (mTup mt)) := PE.imp (pe_tup h) fun σ H Q ⟨et, env, h, hE, hH, hP⟩ => by
  refine ⟨et, env, h, hE, hH, (Pst.of_bind hP).imp fun et1 H1 h1 xs p e hr q vs hv => ?_⟩
  split at q
  · rename_i l
    exact ⟨sz (by rw [hv.len]; exact l), q.newT hr hv⟩
  · exact q.elim
theorem me_lst (h : PA X es (tA G W mt)) : PE X (.List es pos) (tE G W (mLst mt)) := PE.imp (pe_lst h) fun σ H Q ⟨et, env, h, hE, hH, hP⟩ => by
  refine ⟨et, env, h, hE, hH, (Pst.of_bind hP).imp fun et1 H1 h1 xs p e hr q vs hv => ?_⟩
  split at q
  · rename_i l
    exact ⟨sz (by rw [hv.len]; exact l), q.newL hr hv⟩
  · exact q.elim
end

/-! ### defs and their calls -/
def FSp (G : Cf) (n : Nat) (fm : MF) : Sp := fun vs H Q E => vs.length = n ∧ ∃ et ds h, DenL G et H ds vs ∧ HRel G et h H ∧
  Pst G et H (fm ds h) (fun et' H' _ d => ∀ v, Den G et' H' d v → Q v H') E
/-- the old cells are as they were, or tell of old cells alone -/
def okB (k : Nat) : IH → IH → Prop
  | [], _ => True
  | c :: cs, c' :: cs' => (c' = c ∨ Cell.lo k c' = true) ∧ okB k cs cs'
  | _ :: _, [] => False
def xfLo (n : Nat) : XF → Bool
  | none => true
  | some fs => D.loL n (fs.map (·.2))
open Classical in
noncomputable def clean (h : IH) (r : R D) : R D := match r with
  | .ok d h' => if d.lo h.length = true ∧ okB h.length h h' then .ok d (h'.take h.length) else .ok d h'
  | .ex c d h' => if xfLo h.length d = true ∧ okB h.length h h' then .ex c d (h'.take h.length) else .ex c d h'
  | .no => .no
theorem okB_get {k : Nat} : ∀ {h h' : IH} {n : Nat} {c : Cell}, okB k h h' → n < h.length → h'[n]? = some c → h[n]? = some c ∨ Cell.lo k c = true
  | [], _, n, _, _, l, _ => absurd l (Nat.not_lt_zero n)
  | _ :: _, [], _, _, o, _, _ => o.elim
  | c :: cs, c' :: cs', 0, d, o, _, e => by
    simp at e
    subst e
    rcases o.1 with h | h
    · exact .inl (by simp [h])
    · exact .inr h
  | c :: cs, c' :: cs', n + 1, d, o, l, e => by
    have := okB_get o.2 (n := n) (by simpa using l) (by simpa using e)
    simpa using this
theorem okB_len {k : Nat} : ∀ {h h' : IH}, okB k h h' → h.length ≤ h'.length
  | [], _, _ => Nat.zero_le _
  | _ :: _, [], o => o.elim
  | c :: cs, c' :: cs', o => by have := okB_len o.2; simp; omega
theorem HRel.lo {G : Cf} {et : List Addr} {h : IH} {H : Hp} (R : HRel G et h H) {n : Nat} {c : Cell} (e : h[n]? = some c) : Cell.lo et.length c = true := by
  obtain ⟨a, ha⟩ := R.addr e
  exact (R.cell n c a e ha).lo
theorem okB_all {G : Cf} {et : List Addr} {h h' : IH} {H : Hp} (R : HRel G et h H) (o : okB h.length h h') : (h'.take et.length).all (Cell.lo et.length) = true := by
  rw [List.all_eq_true]
  intro c hc
  obtain ⟨n, hn⟩ := List.mem_iff_getElem?.mp hc
  have hl : n < et.length := by
    have := (List.getElem?_eq_some_iff.mp hn).1
    rw [List.length_take] at this
    omega
  rw [List.getElem?_take_of_lt hl] at hn
  rw [R.len] at hl ⊢
  rcases okB_get o hl hn with h1 | h1
  · have := R.lo h1
    rw [R.len] at this
    exact this
  · exact h1
theorem HRel.cut {G : Cf} {et et' : List Addr} {h' : IH} {H : Hp} (p : et <+: et') (R : HRel G et' h' H) (c : (h'.take et.length).all (Cell.lo et.length) = true) : HRel G et (h'.take et.length) H := by
  obtain ⟨t, rfl⟩ := p
  have lt : ∀ {n : Nat} {c : Cell}, (h'.take et.length)[n]? = some c → n < et.length ∧ h'[n]? = some c := fun {n c} e => by
    by_cases hn : n < et.length
    · rw [List.getElem?_take_of_lt hn] at e
      exact ⟨hn, e⟩
    · rw [List.getElem?_eq_none (by rw [List.length_take]; omega)] at e
      cases e
  have al : ∀ {n : Nat} {a : Addr}, et[n]? = some a → (et ++ t)[n]? = some a := fun {n a} e => by
    rw [List.getElem?_append_left (List.getElem?_eq_some_iff.mp e).1]
    exact e
  refine ⟨?_, fun n m c1 c2 a h1 h2 h3 h4 f1 f2 => R.nd n m c1 c2 a (lt h1).2 (lt h2).2 (al h3) (al h4) f1 f2, fun n c1 a h1 h2 => ?_⟩
  · have := R.len
    rw [List.length_append] at this
    rw [List.length_take]
    omega
  · have hm : c1 ∈ h'.take et.length := List.mem_of_getElem? h1
    exact (R.cell n c1 a (lt h1).2 (al h2)).back (List.prefix_append _ _) (List.all_eq_true.mp c c1 hm)
theorem Pst.cleaned {G : Cf} {et : List Addr} {H : Hp} {h : IH} {r : R D} {Q : VK} {W : Value → Option Addr → Hp → Prop} (R : HRel G et h H) (x : Pst G et H (clean h r) (fun et' H' _ d => ∀ v, Den G et' H' d v → Q v H') W) :
    Pst G et H r (fun et' H' _ d => ∀ v, Den G et' H' d v → Q v H') W := by
  cases r with
  | no => exact x
  | ok d h' =>
    simp only [clean] at x
    split at x
    · rename_i c
      intro et' H' p e hr v hv
      have al := okB_all R c.2
      have c1 := c.1
      rw [← R.len] at c1 x
      exact x et H' List.prefix_rfl e (hr.cut p al) v (hv.back p c1)
    · exact x
  | ex c d h' =>
    simp only [clean] at x
    split at x
    · rename_i c
      intro et' H' cls dd p e hr hx
      have al := okB_all R c.2
      have c1 := c.1
      rw [← R.len] at c1 x
      refine x et H' cls dd List.prefix_rfl e (hr.cut p al) ⟨hx.1, ?_⟩
      have h2 := hx.2
      cases d with
      | none => exact h2
      | some fs =>
        obtain ⟨a, ws, q1, q2, q3, q4⟩ := h2
        exact ⟨a, ws, q1, q2, q3, q4.back p c1⟩
    · exact x
noncomputable def callC (n : Nat) (fm : MF) (ds : List D) (h : IH) : R D := if ds.length = n then clean h (fm ds h) else .no
noncomputable def mCall (n : Nat) (fm : MF) (a : MA) : ME := fun env h => (a env h).bind fun ds h1 => callC n fm ds h1
section
variable {X : Cx} {G : Cf} {W : WX} {k n : Nat} {f : Addr} {fd : FuncData} {ps : List Str} {fm : MF} {x : Str} {p pos : Pos} {e : Expr} {es : List Expr} {mt : MA}
theorem FSp.of_call {ds : List D} {vs : List V} {et : List Addr} {H : Hp} {h : IH} {Q : VK} {W0 : XK} (hv : DenL G et H ds vs) (hr : HRel G et h H) (q : Pst G et H (callC n fm ds h) (fun et' H' _ d => ∀ v, Den G et' H' d v → Q v H') W0) : FSp G n fm vs H Q W0 := by
  unfold callC at q
  split at q
  · rename_i l
    exact ⟨by rw [hv.len]; exact l, et, ds, h, hv, hr, q.cleaned hr⟩
  · exact q.elim
theorem me_call (F : FnOk X.prog X.w X.K X.mg X.base (L2.CX X.prog X.w) k f fd ps (FSp G n fm)) (hr : Room k X.A) (hm : X.mg x = some (.ref f)) (hk : PySem.W.keepIn X.K (.ref f) = true) (hb : Binds X.K fd ps []) (tk : Takes X W)
    (ha : PA X (e :: es) (tA G W mt)) (hg : Gl X x := by rfl) (hdb : (x == ("__debug__" : Str)) = false := by decide) (he : starEach (e :: es) X.env = (false, eval e X.env) :: starEach es X.env := by rfl) (hpl : (backTo pos (starEach es X.env)).any (·.1) = false := by rfl) :
    PE X (.Call (.Name x p) (e :: es) [] pos) (tE G W (mCall n fm mt)) := PE.imp (pe_callS F hr hg hm hk hb (passAt tk) ha hdb he hpl) fun σ H Q ⟨et, env, h, hE, hH, hP⟩ =>
  ⟨et, env, h, hE, hH, (Pst.of_bind hP).imp fun et1 H1 h1 ds p e hr q vs hv => FSp.of_call hv hr q⟩
theorem me_call0 (F : FnOk X.prog X.w X.K X.mg X.base (L2.CX X.prog X.w) k f fd ps (FSp G n fm)) (hr : Room k X.A) (hm : X.mg x = some (.ref f)) (hk : PySem.W.keepIn X.K (.ref f) = true) (hb : Binds X.K fd ps []) (tk : Takes X W)
    (hg : Gl X x := by rfl) (hdb : (x == ("__debug__" : Str)) = false := by decide) : PE X (.Call (.Name x p) [] [] pos) (tE G W (mCall n fm mNil)) := by
  refine ⟨fun pins s σ H Q I ⟨et, env, h, hE, hH, hP⟩ => ?_⟩
  refine wpAny_Call_Name_kw (ld_glob I hg hm ?_ hdb)
  exact PySem.W.callWith_K0 I.kIn hk (run_fnS (us := []) F hr hb (passAt tk σ) I .nil (FSp.of_call (by simp) hH hP))
end

/-! ### statements -/
def RS.fin : RS → R D
  | .nx _ h => .ok .non h
  | .rt d h => .ok d h
  | .ex c d _ h => .ex c d h
  | _ => .no
def fnM (n : Nat) (m : MS) : MF := fun ds h => (m (ds.map some ++ List.replicate (n - ds.length) none) h).fin
theorem EnvR.start {G : Cf} {et : List Addr} {H : Hp} {ds : List D} {vs : List V} (r : DenL G et H ds vs) (N : List Str) : EnvR G et H (ds.map some ++ List.replicate (N.length - ds.length) none) (start N vs) := by
  have hl := r.len
  refine ⟨by unfold L2.start; simp [hl], fun i d e => ?_⟩
  by_cases hi : i < ds.length
  · rw [List.getElem?_append_left (by simpa using hi), List.getElem?_map] at e
    cases h1 : ds[i]? with
    | none => rw [h1] at e; cases e
    | some d' =>
      rw [h1] at e
      cases e
      obtain ⟨v, h2, h3⟩ := r.get h1
      refine ⟨v, ?_, h3⟩
      unfold L2.start
      rw [List.getElem?_append_left (by simp; omega), List.getElem?_map, h2]
      rfl
  · rw [List.getElem?_append_right (by simpa using hi)] at e
    have := List.mem_of_getElem? e
    simp at this
section
variable {P : Program} {w : World} {K : PySem.W.Frag} {mg : Str → Option Value} {base : Heap} {G : Cf}
theorem fnPM {x qual : Str} {st : Stmt} {f : Addr} {fd : FuncData} {N ps : List Str} {k n : Nat} {m : MS} (F : Fun K x qual st f fd) (S : FnScope N ps (defScope st)) (hn : ps.length = n)
    (hb : ∀ (cdv : Value) (A : Around) (outer : List PySem.Env) (s : Shared) (H : Hp) (E : XK), Room k (A.deeper (envOfC qual (defScope st) s.heap.objs.size f cdv)) →
      Takes (cxOf (L2.CX P w) P w K mg base N qual (defScope st) f cdv A outer s H E) (fun c d _ H => E c d H) → PassesOwn (model P w) (cxOf (L2.CX P w) P w K mg base N qual (defScope st) f cdv A outer s H E).A (cxOf (L2.CX P w) P w K mg base N qual (defScope st) f cdv A outer s H E).env (cxOf (L2.CX P w) P w K mg base N qual (defScope st) f cdv A outer s H E).xe →
      PSs (cxOf (L2.CX P w) P w K mg base N qual (defScope st) f cdv A outer s H E) (defBody st) (tS G (fun c d _ H => E c d H) m)) : FnOk P w K mg base (L2.CX P w) (k + 1) f fd ps (FSp G n (fnM N.length m)) := by
  refine F.okX S (fun vs H Q E h => h.1.trans hn.symm) fun cdv A outer s H vs Q E hr ⟨hl, et, ds, h, hv, hH, hP⟩ => ⟨_, hb cdv A outer s H E hr (takes_of rfl rfl rfl rfl) (passes_of rfl), ?_⟩
  refine ⟨et, _, h, EnvR.start hv N, hH, ?_⟩
  unfold fnM at hP
  revert hP
  generalize m (ds.map some ++ List.replicate (N.length - ds.length) none) h = r
  intro hP
  cases r with
  | nx e h1 => exact fun et' H' σ' p ex hr _ => hP et' H' p ex hr _ (by simp)
  | rt d h1 => exact fun et' H' v p ex hr hv => hP et' H' p ex hr v hv
  | ex c d e h1 => exact fun et' H' σ' cls dd p ex hr _ hx => hP et' H' cls dd p ex hr hx
  | bk e h1 => exact hP.elim
  | ct e h1 => exact hP.elim
  | no => exact hP.elim
end
end NR

set_option Elab.async false
set_option linter.all false
set_option maxRecDepth 100000
/-! Statements, loops. -/
namespace NR
open PySem PySem.Spec PyProof.Rows L2

def RS.then (r : RS) (k : EV → IH → RS) : RS := match r with
  | .nx e h => k e h
  | r => r
def msNil : MS := fun env h => .nx env h
def msCons (a b : MS) : MS := fun env h => (a env h).then b
def msRet (m : ME) : MS := fun env h => (m env h).bindS env fun d h1 => .rt d h1
def msRetN : MS := fun _ h => .rt .non h
def msIf (t : MT) (a b : MS) : MS := fun env h => (t env h).bindS env fun c h1 => if c = true then a env h1 else b env h1
def msSet (i : Nat) (m : ME) : MS := fun env h => (m env h).bindS env fun d h1 => .nx (env.set i (some d)) h1
def msExpr (m : ME) : MS := fun env h => (m env h).bindS env fun _ h1 => .nx env h1
def msBreak : MS := fun env h => .bk env h
def msCont : MS := fun env h => .ct env h
def msNo : MS := fun _ _ => .no

section
variable {G : Cf} {et et' : List Addr} {H H' : Hp} {h h' : IH} {env : EV} {σ : L2.St} {D0 : Ends} {W : WX} {A : Type}
/-- behind an expression, a statement goes on -/
theorem PstS.of_bind {r : R A} {k : A → IH → RS} (hE : EnvR G et H env σ) (x : PstS G et H (r.bindS env k) D0 W) :
    Pst G et H r (fun et1 H1 h1 a => PstS G et1 H1 (k a h1) D0 W) (fun c d H' => W c d σ H') := by
  cases r with
  | ok a h1 =>
    intro et1 H1 p e hr
    have y : PstS G et H (k a h1) D0 W := x
    show PstS G et1 H1 (k a h1) D0 W
    cases hk : k a h1 with
    | nx b h2 => rw [hk] at y; exact fun et2 H2 σ' p2 e2 hr2 => y et2 H2 σ' (p.trans p2) (e.trans e2) hr2
    | bk b h2 => rw [hk] at y; exact fun et2 H2 σ' p2 e2 hr2 => y et2 H2 σ' (p.trans p2) (e.trans e2) hr2
    | ct b h2 => rw [hk] at y; exact fun et2 H2 σ' p2 e2 hr2 => y et2 H2 σ' (p.trans p2) (e.trans e2) hr2
    | rt b h2 => rw [hk] at y; exact fun et2 H2 v p2 e2 hr2 => y et2 H2 v (p.trans p2) (e.trans e2) hr2
    | ex c d b h2 => rw [hk] at y; exact fun et2 H2 σ' cls dd p2 e2 hr2 => y et2 H2 σ' cls dd (p.trans p2) (e.trans e2) hr2
    | no => rw [hk] at y; exact y
  | ex c d h1 => exact fun et1 H1 cls dd p e hr hx => x et1 H1 σ cls dd p e hr (hE.mono p e) hx
  | no => exact x
theorem PstS.weak {r : RS} (p : et <+: et') (e : Ext H H') (x : PstS G et H r D0 W) : PstS G et' H' r D0 W := by
  cases r with
  | nx b h2 => exact fun et2 H2 σ' p2 e2 hr2 => x et2 H2 σ' (p.trans p2) (e.trans e2) hr2
  | bk b h2 => exact fun et2 H2 σ' p2 e2 hr2 => x et2 H2 σ' (p.trans p2) (e.trans e2) hr2
  | ct b h2 => exact fun et2 H2 σ' p2 e2 hr2 => x et2 H2 σ' (p.trans p2) (e.trans e2) hr2
  | rt b h2 => exact fun et2 H2 v p2 e2 hr2 => x et2 H2 v (p.trans p2) (e.trans e2) hr2
  | ex c d b h2 => exact fun et2 H2 σ' cls dd p2 e2 hr2 => x et2 H2 σ' cls dd (p.trans p2) (e.trans e2) hr2
  | no => exact x
end

section
variable {X : Cx} {G : Cf} {W : WX} {st : Stmt} {rest : List Stmt} {a b : MS} {e c : Expr} {me : ME} {mt : MT} {pos : Pos}
theorem mss_nil : PSs X [] (tS G W msNil) := PSs.imp pss_nil fun D σ H ⟨et, env, h, hE, hH, hP⟩ => hP et H σ List.prefix_rfl (Ext.refl H) hH hE
theorem mss_cons (h1 : PS X st (tS G W a)) (h2 : PSs X rest (tS G W b)) : PSs X (st :: rest) (tS G W (msCons a b)) := PSs.imp (pss_cons h1 h2) fun D σ H ⟨et, env, h, hE, hH, hP⟩ => by
  refine ⟨et, env, h, hE, hH, ?_⟩
  unfold msCons at hP
  revert hP
  generalize a env h = r
  intro hP
  cases r with
  | nx e1 h1 => exact fun et' H' σ' p e hr hE' => ⟨et', e1, h1, hE', hr, PstS.weak p e hP⟩
  | bk b h2 => exact hP
  | ct b h2 => exact hP
  | rt b h2 => exact hP
  | ex c d b h2 => exact hP
  | no => exact hP
theorem mss_one (h1 : PS X st (tS G W a)) : PSs X [st] (tS G W a) := pss_one h1
theorem ms_pass : PS X (.Pass pos) (tS G W msNil) := PS.imp ps_pass fun D σ H ⟨et, env, h, hE, hH, hP⟩ => hP et H σ List.prefix_rfl (Ext.refl H) hH hE
theorem ms_doc {x : Str} {j : Nat} {pos' : Pos} : PS X (.Expr (.Constant (.str x) j pos) pos') (tS G W msNil) := PS.imp ps_doc fun D σ H ⟨et, env, h, hE, hH, hP⟩ => hP et H σ List.prefix_rfl (Ext.refl H) hH hE
theorem ms_break : PS X (.Break pos) (tS G W msBreak) := PS.imp ps_break fun D σ H ⟨et, env, h, hE, hH, hP⟩ => hP et H σ List.prefix_rfl (Ext.refl H) hH hE
theorem ms_continue : PS X (.Continue pos) (tS G W msCont) := PS.imp ps_continue fun D σ H ⟨et, env, h, hE, hH, hP⟩ => hP et H σ List.prefix_rfl (Ext.refl H) hH hE
theorem ms_no : PS X st (tS G W msNo) := PS.imp ps_never fun D σ H ⟨et, env, h, hE, hH, hP⟩ => hP
theorem mss_no {sts : List Stmt} : PSs X sts (tS G W msNo) := PSs.imp pss_never fun D σ H ⟨et, env, h, hE, hH, hP⟩ => hP
theorem ms_ret (he : PE X e (tE G W me)) : PS X (.Return (some e) pos) (tS G W (msRet me)) := PS.imp (ps_ret he) fun D σ H ⟨et, env, h, hE, hH, hP⟩ =>
  ⟨et, env, h, hE, hH, (PstS.of_bind hE hP).imp fun et1 H1 h1 d p e hr q v hv => q et1 H1 v List.prefix_rfl (Ext.refl _) hr hv⟩
theorem ms_retN : PS X (.Return none pos) (tS G W msRetN) := PS.imp ps_retN fun D σ H ⟨et, env, h, hE, hH, hP⟩ => hP et H .non List.prefix_rfl (Ext.refl _) hH (by simp)
theorem ms_if {s1 s2 : List Stmt} (hc : PT X c (tT G W mt)) (ha : PSs X s1 (tS G W a)) (hb : PSs X s2 (tS G W b)) : PS X (.If c s1 s2 pos) (tS G W (msIf mt a b)) := PS.imp (ps_if hc ha hb) fun D σ H ⟨et, env, h, hE, hH, hP⟩ => by
  refine ⟨et, env, h, hE, hH, (PstS.of_bind hE hP).imp fun et1 H1 h1 k p e hr q => ?_⟩
  cases k with
  | true => rw [if_pos rfl] at q ⊢; exact ⟨et1, env, h1, hE.mono p e, hr, q⟩
  | false => rw [if_neg Bool.false_ne_true] at q ⊢; exact ⟨et1, env, h1, hE.mono p e, hr, q⟩
theorem ms_set (i : Nat) {x : Str} {pos' : Pos} (hN : X.N.Nodup) (he : PE X e (tE G W me)) (hi : X.N[i]? = some x := by rfl) (hx : Loc X.env.scope x := by first | exact Or.inl rfl | exact Or.inr rfl) (hs : swapsWith e (some (.Name x pos')) pos.line X.env = pure false := by rfl)
    (hf : X.fn x = true ∨ X.env.scope.names.lookup x = some .local := by first | exact .inl rfl | exact .inr rfl) : PS X (.Assign [.Name x pos'] e pos) (tS G W (msSet i me)) := PS.imp (ps_set hN hi hx he hs hf) fun D σ H ⟨et, env, h, hE, hH, hP⟩ =>
  ⟨et, env, h, hE, hH, (PstS.of_bind hE hP).imp fun et1 H1 h1 d p e hr q v hv => q et1 H1 _ List.prefix_rfl (Ext.refl _) hr ((hE.mono p e).set i hv)⟩
theorem ms_expr (he : PE X e (tE G W me)) (hs : swapsWith e none pos.line X.env = pure false := by rfl) : PS X (.Expr e pos) (tS G W (msExpr me)) := PS.imp (ps_expr he hs) fun D σ H ⟨et, env, h, hE, hH, hP⟩ =>
  ⟨et, env, h, hE, hH, (PstS.of_bind hE hP).imp fun et1 H1 h1 d p e hr q v hv => q et1 H1 σ List.prefix_rfl (Ext.refl _) hr (hE.mono p e)⟩
end

/-! ### op=, stores -/
def msAug (i : Nat) (f : D → D → IH → R D) (m : ME) : MS := fun env h => match env[i]? with
  | some (some x) => (m env h).bindS env fun y h1 => (f x y h1).bindS env fun z h2 => .nx (env.set i (some z)) h2
  | _ => .no
/-- in place: ints, texts, a list that grows -/
def dIAdd : D → D → IH → R D
  | .int i, .int j, h => .ok (.int (i + j)) h
  | .str a, .str b, h => if a.length + b.length ≤ 10000000 then .ok (.str (a ++ b)) h else .no
  | _, _, _ => .no
def dISub : D → D → IH → R D
  | .int i, .int j, h => .ok (.int (i - j)) h
  | _, _, _ => .no
section
variable {X : Cx} {G : Cf} {W : WX} {a b e o i : Expr} {me mo mi : ME} {pos : Pos} {r : R2} {f : D → D → IH → R D}
theorem ms_aug (n : Nat) {x : Str} {op : Operator} {pos' : Pos} (hN : X.N.Nodup) (ho : OpR X (inplaceOp op) r) (hs : OpS G r f) (he : PE X e (tE G W me)) (hi : X.N[n]? = some x := by rfl) (hx : Loc X.env.scope x := by first | exact Or.inl rfl | exact Or.inr rfl)
    (hf : X.fn x = true ∨ X.env.scope.names.lookup x = some .local := by first | exact .inl rfl | exact .inr rfl) : PS X (.AugAssign (.Name x pos') op e pos) (tS G W (msAug n f me)) := PS.imp (ps_aug hN hi hx he (ti := r) ho hf) fun D σ H ⟨et, env, h, hE, hH, hP⟩ => by
  unfold msAug at hP
  split at hP
  · rename_i x0 hx0
    obtain ⟨v0, e0, r0⟩ := hE.2 n x0 hx0
    refine ⟨v0, e0, et, env, h, hE, hH, (PstS.of_bind hE hP).imp fun et1 H1 h1 y p e hr q w hw => ?_⟩
    exact hs et1 H1 h1 x0 y v0 w _ _ (r0.mono p e) hw hr ((PstS.of_bind (hE.mono p e) q).imp fun et2 H2 h2 z p2 e2 hr2 q2 u hu => q2 et2 H2 _ List.prefix_rfl (Ext.refl _) hr2 (((hE.mono p e).mono p2 e2).set n hu))
  · exact hP.elim
theorem iadd_ok : OpS G (fun x y H Q => rI0 (fun i j => .int (i + j)) x y H Q ∨ (∃ i j, x = .str i ∧ y = .str j ∧ i.length + j.length ≤ sizeLine ∧ Q (.str (i ++ j)) H)) dIAdd := by
  intro et H h x y v w W Q rx ry R p
  unfold dIAdd at p
  split at p
  · exact .inl ⟨_, _, den_int.mp rx, den_int.mp ry, p.here R _ (by simp)⟩
  · split at p
    · rename_i c
      refine .inr ⟨_, _, den_str.mp rx, den_str.mp ry, ?_, ?_⟩
      · rw [strV_length, strV_length]; exact sz c
      · exact p.here R _ (by simp [strV_app])
    · exact p.elim
  · exact p.elim
theorem iop_addA : OpR X (inplaceOp .Add) (fun x y H Q => rI0 (fun i j => .int (i + j)) x y H Q ∨ (∃ i j, x = .str i ∧ y = .str j ∧ i.length + j.length ≤ sizeLine ∧ Q (.str (i ++ j)) H)) := OpR.or iop_add iop_add_str
theorem isub_ok : OpS G (rI0 fun i j => .int (i - j)) dISub := by
  intro et H h x y v w W Q rx ry R p
  unfold dISub at p
  split at p
  · exact ⟨_, _, den_int.mp rx, den_int.mp ry, p.here R _ (by simp)⟩
  · exact p.elim
theorem idiv_ok : OpS G (rI CDivW fun i j => .int (i / j)) dDiv := opS_I fun i j c => by
    have c' : 0 < j ∧ j < 2 ^ 64 := by simpa [cDiv] using c
    exact wide_div c'.1 (b := 64) (by omega) (by decide) (by decide)
theorem imod_ok : OpS G (rI (fun _ j => 0 < j) fun i j => .int (i % j)) dMod := opS_I fun i j c => by simpa [cMod] using c
end
/-- the place of an item, from either end -/
def ixD (n : Nat) (i : Int) : Option Nat := ixN n i
/-- o[i] = v: a list's item -/
def putD (o i v : D) (h : IH) : Option IH := match o, i with
  | .ref n, .int k => match h[n]? with
    | some (.lst xs) => (ixN xs.length k).map fun j => h.set n (.lst (xs.set j v))
    | _ => none
  | _, _ => none
def msSetI (mo mi me : ME) : MS := fun env h => (me env h).bindS env fun v h1 => (mo env h1).bindS env fun o h2 => (mi env h2).bindS env fun i h3 => match putD o i v h3 with
  | some h4 => .nx env h4
  | none => .no
section
variable {G : Cf} {et : List Addr} {H : Hp} {h h' : IH}
theorem put_ok (R : HRel G et h H) {o i v : D} {vo vi vv : V} {Q : Hp → Prop} (e : putD o i v h = some h') (ro : Den G et H o vo) (ri : Den G et H i vi) (rv : Den G et H v vv) (q : ∀ H', Ext H H' → HRel G et h' H' → Q H') : rSetL vo vi vv H Q := by
  unfold putD at e
  split at e
  · rename_i n k
    split at e
    · rename_i xs hx
      simp only [Option.map_eq_some_iff] at e
      obtain ⟨j, e1, rfl⟩ := e
      obtain ⟨a, vs, h1, rfl, h2, h3⟩ := den_list R hx ro
      refine ⟨a, vs, k, j, rfl, den_int.mp ri, h2, by rw [h3.len]; exact e1, ?_⟩
      have ex : Ext H (upd H a (.lst (vs.set j vv))) := Ext.mut h2 True.intro
      exact q _ ex (R.set hx h1 rfl h2 True.intro ⟨_, upd_same, (h3.set j rv).mono List.prefix_rfl ex⟩)
    · cases e
  · cases e
end
section
variable {X : Cx} {G : Cf} {W : WX} {a b e o i : Expr} {me mo mi : ME} {pos pos' : Pos} {r : R2} {f : D → D → IH → R D}
theorem ms_setI (he : PE X e (tE G W me)) (ho : PE X o (tE G W mo)) (hi : PE X i (tE G W mi)) (ha : ∀ v, assign (.Subscript o i pos') X.env v = (do
      let ov ← holding [v] (eval o X.env)
      let iv ← holding [v, ov] (eval i X.env)
      standAt pos'
      holding [v, ov, iv] (setItem ov iv v)
      release [v, ov, iv] []) := by intro _; rfl) (hs : swapsWithSole [.Subscript o i pos'] e pos.line X.env = pure false := by rfl) (hw : swappedStores [.Subscript o i pos'] e X.env = pure none := by rfl)
    (h1 : (assignEach [.Subscript o i pos'] X.env).map (·.2) = [assign (.Subscript o i pos') X.env] := by rfl) : PS X (.Assign [.Subscript o i pos'] e pos) (tS G W (msSetI mo mi me)) :=
  PS.imp (ps_asg he (pg_sub ho hi set_list ha) hs hw h1) fun D σ H ⟨et, env, h, hE, hH, hP⟩ => by
    refine ⟨et, env, h, hE, hH, (PstS.of_bind hE hP).imp fun et1 H1 h1 v p e hr q vv hv => ?_⟩
    have hE1 := hE.mono p e
    refine ⟨et1, env, h1, hE1, hr, (PstS.of_bind hE1 q).imp fun et2 H2 h2 o p2 e2 hr2 q2 vo ho => ?_⟩
    have hE2 := hE1.mono p2 e2
    refine ⟨et2, env, h2, hE2, hr2, (PstS.of_bind hE2 q2).imp fun et3 H3 h3 i p3 e3 hr3 q3 vi hi => ?_⟩
    have hE3 := hE2.mono p3 e3
    split at q3
    · rename_i h4 e4
      exact put_ok hr3 e4 (ho.mono p3 e3) hi ((hv.mono p2 e2).mono p3 e3) fun H' ex hr4 => q3 et3 H' σ List.prefix_rfl ex hr4 (hE3.mono List.prefix_rfl ex)
    · exact q3.elim
end
/-- o[i], by values -/
def getD' (o i : D) (h : IH) : R D := match i with
  | .int k => match o with
    | .str s => match (ixN s.length k).bind fun j => s[j]? with
      | some c => if s.length ≤ 10000000 then .ok (.str [c]) h else .no
      | none => .no
    | o => match (seqOf h o).bind fun xs => (ixN xs.length k).bind fun j => xs[j]? with
      | some d => .ok d h
      | none => .no
  | _ => .no
abbrev dIx : D → D → IH → R D := fun o i h => getD' o i h
section
variable {X : Cx} {G : Cf} {W : WX} {a b e o i : Expr} {ma mb me mo mi : ME} {pos pos' : Pos} {r : R2} {f : D → D → IH → R D}
theorem atI_den {et : List Addr} {H : Hp} {xs : List D} {vs : List V} (r : DenL G et H xs vs) {k : Int} {d : D} (e : ((ixN xs.length k).bind fun j => xs[j]?) = some d) : ∃ v, atI vs k = some v ∧ Den G et H d v := by
  simp only [Option.bind_eq_some_iff] at e
  obtain ⟨j, e1, e2⟩ := e
  obtain ⟨v, h1, h2⟩ := r.get e2
  exact ⟨v, by unfold atI; rw [r.len, e1]; exact h1, h2⟩
theorem dIx_ok : OpS G (rIx G.K) dIx := by
  intro et H h x y v w W Q rx ry R p
  unfold dIx getD' at p
  split at p
  · rename_i k
    split at p
    · rename_i s
      split at p
      · rename_i c hc
        split at p
        · rename_i l
          refine .inr (.inr ⟨strV s, k, c, den_str.mp rx, den_int.mp ry, by rw [strV_length]; exact sz l, ?_, p.here R _ (by simp [strV])⟩)
          unfold atI
          simpa [strV] using hc
        · exact p.elim
      · exact p.elim
    · split at p
      · rename_i d hd
        simp only [Option.bind_eq_some_iff] at hd
        obtain ⟨xs, e1, e2⟩ := hd
        obtain ⟨a, vs, rfl, h1, h2⟩ := seq_ok R e1 rx
        obtain ⟨u, e3, r3⟩ := atI_den h2 (k := k) (by simpa only [Option.bind_eq_some_iff] using e2)
        rcases h1 with h1 | h1
        · exact .inl ⟨a, vs, k, u, rfl, den_int.mp ry, h1, e3, p.here R _ r3⟩
        · exact .inr (.inl ⟨a, vs, k, u, rfl, den_int.mp ry, h1, e3, p.here R _ r3⟩)
      · exact p.elim
  · exact p.elim
theorem me_ix (hK : X.K = G.K) (ha : PE X a (tE G W ma)) (hb : PE X b (tE G W mb)) (hs : PlainIx b := by exact fun _ _ => rfl) : PE X (.Subscript a b pos) (tE G W (mOp dIx ma mb)) := by
  refine PE.imp (pe_ix (r := rIx X.K) ix_seq ha hb hs) fun σ H Q x => ?_
  rw [hK]
  exact tOp_of dIx_ok x
/-! slices -/
def cutD (xs : List D) (lo hi : Option Int) : List D := (xs.drop (HT.sIx xs.length 0 lo)).take (HT.sIx xs.length xs.length hi - HT.sIx xs.length 0 lo)
def cutN (xs : List Nat) (lo hi : Option Int) : List Nat := (xs.drop (HT.sIx xs.length 0 lo)).take (HT.sIx xs.length xs.length hi - HT.sIx xs.length 0 lo)
abbrev MO := EV → IH → R (Option Int)
def moNone : MO := fun _ h => .ok none h
def moSome (m : ME) : MO := fun env h => (m env h).bind fun d h1 => match d with
  | .int i => .ok (some i) h1
  | _ => .no
def tO (G : Cf) (W : WX) (m : MO) : TO := fun σ H Q => ∃ et env h, EnvR G et H env σ ∧ HRel G et h H ∧
  Pst G et H (m env h) (fun _ H' _ o => Q o H') (fun c d H' => W c d σ H')
def sliceD (x : D) (lo hi : Option Int) (h : IH) : R D := match x with
  | .str s => if s.length ≤ 10000000 then .ok (.str (cutN s lo hi)) h else .no
  | .tup l => .ok (.tup (cutD l lo hi)) h
  | x => match lstOf h x with
    | some xs => .ok (.ref h.length) (h ++ [.lst (cutD xs lo hi)])
    | none => .no
def mSlice (m : ME) (lo hi : MO) : ME := fun env h => (m env h).bind fun x h1 => (lo env h1).bind fun l h2 => (hi env h2).bind fun u h3 => sliceD x l u h3
def rSlAll (K : PySem.W.Frag) : V → Option Int → Option Int → Hp → VK → Prop := fun x lo hi H Q => rSlL K x lo hi H Q ∨ rSlA K x lo hi H Q ∨ rSlS x lo hi H Q
theorem sl_all : SlR X (rSlAll X.K) := SlR.or sl_list (SlR.or sl_tupA sl_str)
end
end NR

set_option Elab.async false
set_option linter.all false
set_option maxRecDepth 100000
/-! Slices, calls of built-ins, methods, loops. -/
namespace NR
open PySem PySem.Spec PyProof.Rows L2
section
variable {X : Cx} {G : Cf} {W : WX} {a b e o i : Expr} {ma mb me : ME} {mo1 mo2 : MO} {pos pos' p2 : Pos} {lo hi : Option Expr}
theorem moN : PO X none (tO G W moNone) := ⟨fun pins s σ H Q I ⟨et, env, h, hE, hH, hP⟩ => po_none.run pins s σ H Q I (hP.here hH)⟩
theorem moS (he : PE X e (tE G W me)) : PO X (some e) (tO G W (moSome me)) := ⟨fun pins s σ H Q I ⟨et, env, h, hE, hH, hP⟩ => (po_some he).run pins s σ H Q I ⟨et, env, h, hE, hH, (Pst.of_bind hP).imp fun et1 H1 h1 d p e hr q v hv => by
    cases d with
    | int k => exact ⟨k, den_int.mp hv, q.here hr⟩
    | _ => exact q.elim⟩⟩
theorem slice_ok {et : List Addr} {H : Hp} {h : IH} (R : HRel G et h H) {x : D} {vx : V} {l u : Option Int} {Q : VK} {W0 : Value → Option Addr → Hp → Prop} (rx : Den G et H x vx)
    (p : Pst G et H (sliceD x l u h) (fun et' H' _ d => ∀ v, Den G et' H' d v → Q v H') W0) : rSlAll G.K vx l u H Q := by
  unfold sliceD at p
  split at p
  · split at p
    · rename_i s c
      refine .inr (.inr ⟨strV s, den_str.mp rx, by rw [strV_length]; exact sz c, p.here R _ ?_⟩)
      rw [den_str]
      unfold cutS cutN
      rw [strV_length]
      simp [strV]
    · exact p.elim
  · rename_i l0
    obtain ⟨a, vs, rfl, h1, h2⟩ := den_tup.mp rx
    refine .inr (.inl ⟨a, vs, rfl, h1, fun c => ?_, fun _ => ?_⟩)
    · refine p.here R _ (den_tup.mpr ⟨a, vs, rfl, h1, ?_⟩)
      have e : cutD l0 l u = l0 := by
        unfold cutD
        rw [h2.len] at c
        rw [c.1, c.2]
        simp
      rw [e]; exact h2
    · have h3 : DenL G et H (cutD l0 l u) (cutV vs l u) := by
        unfold cutD cutV
        rw [h2.len]
        exact (h2.drop _).take _
      exact p.newT R h3
  · split at p
    · rename_i xs hx
      obtain ⟨a, vs, rfl, h1, h2⟩ := lst_ok R hx rx
      have h3 : DenL G et H (cutD xs l u) (cutV vs l u) := by
        unfold cutD cutV
        rw [h2.len]
        exact (h2.drop _).take _
      exact .inl ⟨a, vs, rfl, h1, p.newL R h3⟩
    · exact p.elim
theorem me_slice (hK : X.K = G.K) (ha : PE X e (tE G W me)) (h1 : PO X lo (tO G W mo1)) (h2 : PO X hi (tO G W mo2)) : PE X (.Subscript e (.Slice lo hi none p2) pos) (tE G W (mSlice me mo1 mo2)) :=
  PE.imp (pe_slice sl_all ha h1 h2) fun σ H Q ⟨et, env, h, hE, hH, hP⟩ => by
    refine ⟨et, env, h, hE, hH, (Pst.of_bind hP).imp fun et1 H1 h1 x p e hr q v hv => ?_⟩
    have hE1 := hE.mono p e
    refine ⟨et1, env, h1, hE1, hr, (Pst.of_bind q).imp fun et2 H2 h2 l p2 e2 hr2 q2 => ?_⟩
    have hE2 := hE1.mono p2 e2
    refine ⟨et2, env, h2, hE2, hr2, (Pst.of_bind q2).imp fun et3 H3 h3 u p3 e3 hr3 q3 => ?_⟩
    rw [hK]
    exact slice_ok hr3 ((hv.mono p2 e2).mono p3 e3) q3
end

/-! ### built-ins by values -/
def CallS (G : Cf) (r : List V → Hp → VK → Prop) (f : List D → IH → R D) : Prop := ∀ (et : List Addr) (H : Hp) (h : IH) (xs : List D) (vs : List V) (W : Value → Option Addr → Hp → Prop) (Q : VK), DenL G et H xs vs → HRel G et h H →
  Pst G et H (f xs h) (fun et' H' _ d => ∀ v, Den G et' H' d v → Q v H') W → r vs H Q
def mB (f : List D → IH → R D) (t : MA) : ME := fun env h => (t env h).bind fun xs h1 => f xs h1
section
variable {X : Cx} {G : Cf} {W : WX} {e : Expr} {es : List Expr} {mt : MA} {pos p : Pos} {x : Str} {r : List V → Hp → VK → Prop} {f : List D → IH → R D}
theorem me_callB {id : String} (hc : CallR X (.builtin id) r) (hs : CallS G r f) (hm : X.mg x = none) (hv : bootBuiltins x = some (.builtin id)) (ha : PA X (e :: es) (tA G W mt)) (hg : Gl X x := by rfl) (hn : x ≠ "__name__" := by decide) (hdb : (x == ("__debug__" : Str)) = false := by decide)
    (he : starEach (e :: es) X.env = (false, eval e X.env) :: starEach es X.env := by rfl) (hpl : (backTo pos (starEach es X.env)).any (·.1) = false := by rfl) : PE X (.Call (.Name x p) (e :: es) [] pos) (tE G W (mB f mt)) :=
  PE.imp (pe_callB hc hg hm hv ha hn hdb he hpl) fun σ H Q ⟨et, env, h, hE, hH, hP⟩ => ⟨et, env, h, hE, hH, (Pst.of_bind hP).imp fun et1 H1 h1 xs p e hr q vs hv => hs et1 H1 h1 xs vs _ Q hv hr q⟩
theorem me_callT {T : String} (hc : CallR X (.type T) r) (hs : CallS G r f) (hm : X.mg x = none) (hv : bootBuiltins x = some (.type T)) (ha : PA X (e :: es) (tA G W mt)) (hg : Gl X x := by rfl) (hn : x ≠ "__name__" := by decide) (hdb : (x == ("__debug__" : Str)) = false := by decide)
    (he : starEach (e :: es) X.env = (false, eval e X.env) :: starEach es X.env := by rfl) (hpl : (backTo pos (starEach es X.env)).any (·.1) = false := by rfl) : PE X (.Call (.Name x p) (e :: es) [] pos) (tE G W (mB f mt)) :=
  PE.imp (pe_callTy hc hg hm hv ha hn hdb he hpl) fun σ H Q ⟨et, env, h, hE, hH, hP⟩ => ⟨et, env, h, hE, hH, (Pst.of_bind hP).imp fun et1 H1 h1 xs p e hr q vs hv => hs et1 H1 h1 xs vs _ Q hv hr q⟩
end

def bAbs : List D → IH → R D
  | [.int i], h => .ok (.int (if i < 0 then -i else i)) h
  | _, _ => .no
def bMax2 : List D → IH → R D
  | [.int i, .int j], h => .ok (.int (if j > i then j else i)) h
  | _, _ => .no
def bMin2 : List D → IH → R D
  | [.int i, .int j], h => .ok (.int (if j < i then j else i)) h
  | _, _ => .no
def bInt1 : List D → IH → R D
  | [.int i], h => .ok (.int i) h
  | [.bl b], h => .ok (.int (if b then 1 else 0)) h
  | _, _ => .no
def bLen : List D → IH → R D
  | [.str s], h => if s.length ≤ 10000000 then .ok (.int (s.length : Nat)) h else .no
  | [.tup l], h => .ok (.int (l.length : Nat)) h
  | [.fl l], h => .ok (.int (l.length : Nat)) h
  | [.ref n], h => match h[n]? with
    | some (.lst xs) => .ok (.int (xs.length : Nat)) h
    | some (.frz xs) => .ok (.int (xs.length : Nat)) h
    | some (.dk kvs) => .ok (.int (kvs.length : Nat)) h
    | _ => .no
  | _, _ => .no
def bList : List D → IH → R D
  | [x], h => match x with
    | .str _ => .no
    | x => match seqOf h x with
      | some xs => .ok (.ref h.length) (h ++ [.lst xs])
      | none => .no
  | _, _ => .no
def bTuple : List D → IH → R D
  | [x], h => match x with
    | .str _ => .no
    | .tup l => .ok (.tup l) h
    | x => match lstOf h x with
      | some xs => .ok (.tup xs) h
      | none => .no
  | _, _ => .no
def bSum : List D → IH → R D
  | [x], h => match (lstOf h x).bind (allM D.int?) with
    | some ns => .ok (.int ns.sum) h
    | none => .no
  | _, _ => .no
def bAny : List D → IH → R D
  | [x], h => match (lstOf h x).bind (allM D.bl?) with
    | some bs => .ok (.bl (bs.any id)) h
    | none => .no
  | _, _ => .no
def bAll : List D → IH → R D
  | [x], h => match (lstOf h x).bind (allM D.bl?) with
    | some bs => .ok (.bl (bs.all id)) h
    | none => .no
  | _, _ => .no
section
variable {X : Cx} {G : Cf}
theorem list1 {et : List Addr} {H : Hp} {x : D} {vs : List V} (r : DenL G et H [x] vs) : ∃ v, vs = [v] ∧ Den G et H x v := by
  obtain ⟨v, ws, rfl, h1, h2⟩ := denL_cons.mp r
  rw [denL_nil] at h2
  subst h2
  exact ⟨v, rfl, h1⟩
theorem list2 {et : List Addr} {H : Hp} {x y : D} {vs : List V} (r : DenL G et H [x, y] vs) : ∃ v w, vs = [v, w] ∧ Den G et H x v ∧ Den G et H y w := by
  obtain ⟨v, ws, rfl, h1, h2⟩ := denL_cons.mp r
  obtain ⟨w, rfl, h3⟩ := list1 h2
  exact ⟨v, w, rfl, h1, h3⟩
theorem bAbs_ok : CallS G (fun xs H Q => ∃ i, xs = [.int i] ∧ Q (.int (if i < 0 then -i else i)) H) bAbs := by
  intro et H h xs vs W Q rv R p
  unfold bAbs at p
  split at p
  · obtain ⟨v, rfl, h1⟩ := list1 rv
    exact ⟨_, by rw [den_int.mp h1], p.here R _ (by simp)⟩
  · exact p.elim
theorem bMax2_ok : CallS G (fun xs H Q => ∃ i j, xs = [.int i, .int j] ∧ Q (.int (if j > i then j else i)) H) bMax2 := by
  intro et H h xs vs W Q rv R p
  unfold bMax2 at p
  split at p
  · obtain ⟨v, w, rfl, h1, h2⟩ := list2 rv
    exact ⟨_, _, by rw [den_int.mp h1, den_int.mp h2], p.here R _ (by simp)⟩
  · exact p.elim
theorem bMin2_ok : CallS G (fun xs H Q => ∃ i j, xs = [.int i, .int j] ∧ Q (.int (if j < i then j else i)) H) bMin2 := by
  intro et H h xs vs W Q rv R p
  unfold bMin2 at p
  split at p
  · obtain ⟨v, w, rfl, h1, h2⟩ := list2 rv
    exact ⟨_, _, by rw [den_int.mp h1, den_int.mp h2], p.here R _ (by simp)⟩
  · exact p.elim
theorem bInt1_ok : CallS G (fun xs H Q => (∃ i, xs = [.int i] ∧ Q (.int i) H) ∨ ∃ k, xs = [.bl k] ∧ Q (.int (if k then 1 else 0)) H) bInt1 := by
  intro et H h xs vs W Q rv R p
  unfold bInt1 at p
  split at p
  · obtain ⟨v, rfl, h1⟩ := list1 rv
    exact .inl ⟨_, by rw [den_int.mp h1], p.here R _ (by simp)⟩
  · obtain ⟨v, rfl, h1⟩ := list1 rv
    exact .inr ⟨_, by rw [den_bl.mp h1], p.here R _ (by simp)⟩
  · exact p.elim
def rLenA (K : PySem.W.Frag) : List V → Hp → VK → Prop := fun xs H Q => (∃ x n, xs = [x] ∧ LenV K x H n ∧ Q (.int n) H) ∨ (∃ a kvs, xs = [V.ref a] ∧ H a = some (.dK kvs) ∧ Q (.int kvs.length) H)
theorem call_lenA : CallR X (.builtin "len") (rLenA X.K) := CallR.or call_len call_lenD
theorem bLen_ok : CallS G (rLenA G.K) bLen := by
  intro et H h xs vs W Q rv R p
  unfold bLen at p
  split at p
  · split at p
    · rename_i s c
      obtain ⟨v, rfl, h1⟩ := list1 rv
      refine .inl ⟨_, s.length, rfl, ?_, p.here R _ (by simp)⟩
      rw [den_str.mp h1]
      exact ⟨by rw [strV_length]; exact sz c, by rw [strV_length]⟩
    · exact p.elim
  · rename_i l
    obtain ⟨v, rfl, h1⟩ := list1 rv
    obtain ⟨a, vs, rfl, h2, h3⟩ := den_tup.mp h1
    exact .inl ⟨_, l.length, rfl, .inr ⟨vs, h2, h3.len.symm⟩, p.here R _ (by simp)⟩
  · rename_i l
    obtain ⟨v, rfl, h1⟩ := list1 rv
    obtain ⟨a, vs, rfl, h2, h3⟩ := den_fl.mp h1
    exact .inl ⟨_, l.length, rfl, .inl ⟨vs, h2.sq, h3.len.symm⟩, p.here R _ (by simp)⟩
  · obtain ⟨v, rfl, h1⟩ := list1 rv
    obtain ⟨a, h2, rfl⟩ := den_ref.mp h1
    split at p
    · rename_i xs hx
      obtain ⟨vs, h3, h4⟩ := R.cell _ _ a hx h2
      exact .inl ⟨_, xs.length, rfl, .inl ⟨vs, SqL.of h3, h4.len.symm⟩, p.here R _ (by simp)⟩
    · rename_i xs hx
      obtain ⟨vs, h3, h4⟩ := R.cell _ _ a hx h2
      exact .inl ⟨_, xs.length, rfl, .inl ⟨vs, h3.sq, h4.len.symm⟩, p.here R _ (by simp)⟩
    · rename_i kvs hx
      obtain ⟨ws, h3, h4, h5⟩ := R.cell _ _ a hx h2
      have hl := congrArg List.length h4
      simp at hl
      exact .inr ⟨a, ws, rfl, h3, p.here R _ (by simp [hl])⟩
    · exact p.elim
  · exact p.elim
theorem bSum_ok : CallS G (rSum G.K) bSum := by
  intro et H h xs vs W Q rv R p
  unfold bSum at p
  split at p
  · split at p
    · rename_i ns e
      simp only [Option.bind_eq_some_iff] at e
      obtain ⟨ds, e1, e2⟩ := e
      obtain ⟨v, rfl, h1⟩ := list1 rv
      obtain ⟨a, vs, rfl, h2, h3⟩ := lst_ok R e1 h1
      rw [allM_ints e2] at h3
      rw [h3.ints] at h2
      exact ⟨a, ns, rfl, h2, p.here R _ (by simp)⟩
    · exact p.elim
  · exact p.elim
theorem bAny_ok : CallS G (rAny G.K) bAny := by
  intro et H h xs vs W Q rv R p
  unfold bAny at p
  split at p
  · split at p
    · rename_i ns e
      simp only [Option.bind_eq_some_iff] at e
      obtain ⟨ds, e1, e2⟩ := e
      obtain ⟨v, rfl, h1⟩ := list1 rv
      obtain ⟨a, vs, rfl, h2, h3⟩ := lst_ok R e1 h1
      rw [allM_bls e2] at h3
      rw [h3.bls] at h2
      exact ⟨a, ns, rfl, h2, p.here R _ (by simp)⟩
    · exact p.elim
  · exact p.elim
theorem bAll_ok : CallS G (rAll G.K) bAll := by
  intro et H h xs vs W Q rv R p
  unfold bAll at p
  split at p
  · split at p
    · rename_i ns e
      simp only [Option.bind_eq_some_iff] at e
      obtain ⟨ds, e1, e2⟩ := e
      obtain ⟨v, rfl, h1⟩ := list1 rv
      obtain ⟨a, vs, rfl, h2, h3⟩ := lst_ok R e1 h1
      rw [allM_bls e2] at h3
      rw [h3.bls] at h2
      exact ⟨a, ns, rfl, h2, p.here R _ (by simp)⟩
    · exact p.elim
  · exact p.elim
end
end NR

set_option Elab.async false
set_option linter.all false
set_option maxRecDepth 100000
/-! Methods, loops, comprehensions. -/
namespace NR
open PySem PySem.Spec PyProof.Rows L2

/-! ### methods of built-in types -/
def tyD (T : String) (h : IH) : D → Bool
  | .str _ => T == "str"
  | .int _ => T == "int"
  | .fl _ => T == "list"
  | .ref n => match h[n]? with
    | some (.lst _) => T == "list"
    | some (.frz _) => T == "list"
    | some (.dk _) => T == "dict"
    | _ => false
  | _ => false
def mMeth (T : String) (f : D → List D → IH → R D) (mo : ME) (mt : MA) : ME := fun env h => (mo env h).bind fun x h1 => if tyD T h1 x = true then (mt env h1).bind fun xs h2 => f x xs h2 else .no
def MethS (G : Cf) (r : V → List V → Hp → VK → Prop) (f : D → List D → IH → R D) : Prop := ∀ (et : List Addr) (H : Hp) (h : IH) (x : D) (v : V) (xs : List D) (vs : List V) (W : Value → Option Addr → Hp → Prop) (Q : VK), Den G et H x v → DenL G et H xs vs → HRel G et h H →
  Pst G et H (f x xs h) (fun et' H' _ d => ∀ v, Den G et' H' d v → Q v H') W → r v vs H Q
section
variable {X : Cx} {G : Cf} {W : WX} {o e : Expr} {es : List Expr} {mo : ME} {mt : MA} {name : Str} {apos cpos : Pos} {T id : String} {r : V → List V → Hp → VK → Prop} {f : D → List D → IH → R D}
theorem tyD_ok {et : List Addr} {H : Hp} {h : IH} (R : HRel G et h H) {x : D} {v : V} (e : tyD T h x = true) (r : Den G et H x v) : tyV G.K T v H := by
  cases x with
  | str s => rw [den_str.mp r]; exact (show T = "str" by simpa [tyD] using e)
  | int s => rw [den_int.mp r]; exact (show T = "int" by simpa [tyD] using e)
  | fl l =>
    obtain ⟨a, vs, rfl, h2, h3⟩ := den_fl.mp r
    exact .inl ⟨by simpa [tyD] using e, vs, h2.sq⟩
  | ref n =>
    obtain ⟨a, h1, rfl⟩ := den_ref.mp r
    simp only [tyD] at e
    split at e
    · rename_i xs hx
      obtain ⟨vs, h2, h3⟩ := R.cell n _ a hx h1
      exact .inl ⟨by simpa using e, vs, SqL.of h2⟩
    · rename_i xs hx
      obtain ⟨vs, h2, h3⟩ := R.cell n _ a hx h1
      exact .inl ⟨by simpa using e, vs, h2.sq⟩
    · rename_i xs hx
      obtain ⟨vs, h2, h3⟩ := R.cell n _ a hx h1
      exact .inr (.inr (.inl ⟨by simpa using e, .inl ⟨vs, h2⟩⟩))
    · cases e
  | _ => simp [tyD] at e
theorem me_meth (hK : X.K = G.K) (pa : PlainAttrs T) (slot : Slot T name id) (hty : typeOf (.builtin id) = pure (.type "method_descriptor")) (hm : MtR X id r) (hs : MethS G r f) (ho : PE X o (tE G W mo)) (ha : PA X (e :: es) (tA G W mt))
    (hbase : attributeBase o name X.env (eval o X.env) = eval o X.env := by rfl) (hall : ((backTo cpos (starEach (e :: es) X.env)).all (!·.1) && (backToKw cpos (keywordEach [] X.env)).all (·.1.isSome) && decide ((e :: es).length + ([] : List Keyword).length + (if ([] : List Keyword).isEmpty = true then 0 else 1) < 30)) = true := by rfl)
    (hline : (apos.endLine == cpos.line) = true := by rfl) (he : starEach (e :: es) X.env = (false, eval e X.env) :: starEach es X.env := by rfl) (hpl : (backTo cpos (starEach es X.env)).any (·.1) = false := by rfl) :
    PE X (.Call (.Attribute o name apos) (e :: es) [] cpos) (tE G W (mMeth T f mo mt)) := PE.imp (pe_bm pa slot hty hm ho ha hbase hall hline he hpl) fun σ H Q ⟨et, env, h, hE, hH, hP⟩ => by
  refine ⟨et, env, h, hE, hH, (Pst.of_bind hP).imp fun et1 H1 h1 x p e hr q v hv => ?_⟩
  split at q
  · rename_i ht
    rw [hK]
    exact ⟨tyD_ok hr ht hv, et1, env, h1, hE.mono p e, hr, (Pst.of_bind q).imp fun et2 H2 h2 xs p2 e2 hr2 q2 vs hvs => hs et2 H2 h2 x v xs vs _ Q (hv.mono p2 e2) hvs hr2 q2⟩
  · exact q.elim
end
def fAppend : D → List D → IH → R D
  | .ref n, [y], h => match h[n]? with
    | some (.lst xs) => if xs.length < 10000000 then .ok .non (h.set n (.lst (xs ++ [y]))) else .no
    | _ => .no
  | _, _, _ => .no
def rExtendR : V → List V → Hp → VK → Prop := fun x vs H Q => ∃ l b xs zs, x = .ref l ∧ vs = [.ref b] ∧ H l = some (.lst xs) ∧ Rd H b (.lst zs) ∧ xs.length + zs.length ≤ sizeLine ∧ Q .non (upd H l (.lst (xs ++ zs)))
theorem mt_extendR {X : Cx} : MtM X "list.extend" rExtendR := by
  intro pins s σ H x vs v us Q I rx rv h
  obtain ⟨l, b, xs, zs, rfl, rfl, hH, hB, hz, q⟩ := h
  cases rx
  obtain ⟨u, rfl, ru⟩ := rv.one
  cases ru
  obtain ⟨z, its, n, r, hl, e⟩ := I.lstM hH
  obtain ⟨z2, its2, n2, r2, e2⟩ := Inv.lstR I hB
  have hl2 := r2.length
  have hsz : its.toArray.size + its2.toArray.size ≤ sizeLine := by rw [List.size_toArray, List.size_toArray]; omega
  have hlong : ¬ (!its.toArray.isEmpty && Builtin.List.listTooLong (its.toArray.size + its2.toArray.size)) = true := by
    rw [notLongL hsz, Bool.and_false]
    exact Bool.false_ne_true
  refine call_meets F.slot_list_extend ⟨_, e, rfl⟩ F.entry_list_extend (F.args_list_extend_2 _ _)
    (AutoSeq1.list_extend_list_list_0 l its.toArray n b its2.toArray n2 hlong (by rw [List.size_toArray]; omega) (by omega)) ⟨e, e2, ?_⟩
  refine ⟨.non, _, I.lset (its' := its ++ its2) hH e (by simp) (r.append r2) ?_, rfl, q⟩
  rw [List.length_append]
  omega
def fExtend : D → List D → IH → R D
  | .ref n, [y], h => match h[n]?, lsOf h y with
    | some (.lst xs), some ys => if xs.length + ys.length ≤ 10000000 then .ok .non (h.set n (.lst (xs ++ ys))) else .no
    | _, _ => .no
  | _, _, _ => .no
def joinN (a : List Nat) : List (List Nat) → List Nat
  | [] => []
  | [x] => x
  | x :: y :: r => x ++ a ++ joinN a (y :: r)
def fJoin : D → List D → IH → R D
  | .str a, [y], h => match (seqOf h y).bind (allM D.str?) with
    | some ys => if (ys.map List.length).sum + ys.length * a.length ≤ 10000000 then .ok (.str (joinN a ys)) h else .no
    | none => .no
  | _, _, _ => .no
theorem glue_fold (a : List Nat) : ∀ (ys : List (List Nat)) (x : List Nat), (ys.map strV).foldl (fun acc p => acc ++ (strV a).cps ++ p.cps) (strV x).cps = (strV (joinN a (x :: ys))).cps
  | [], x => rfl
  | y :: ys, x => by
    have ih := glue_fold a ys (x ++ a ++ y)
    rw [List.map_cons, List.foldl_cons]
    have e1 : (strV x).cps ++ (strV a).cps ++ (strV y).cps = (strV (x ++ a ++ y)).cps := by simp [strV]
    rw [e1, ih]
    congr 2
    cases ys with
    | nil => simp [joinN]
    | cons z zs => simp [joinN]
theorem join_ok (a : List Nat) (ys : List (List Nat)) : Txt.join (strV a) (ys.map strV) = strV (joinN a ys) := by
  show Builtin.Str.glued _ _ = _
  unfold Builtin.Str.glued
  cases ys with
  | nil => rfl
  | cons y ys =>
    simp only [List.map_cons, List.drop_succ_cons, List.drop_zero, List.headD_cons]
    rw [glue_fold]
section
variable {X : Cx} {G : Cf}
theorem fAppend_ok : MethS G rAppend fAppend := by
  intro et H h x v xs vs W Q rx rv R p
  unfold fAppend at p
  split at p
  · split at p
    · split at p
      · rename_i n y ys hx c
        obtain ⟨w, rfl, h1⟩ := list1 rv
        obtain ⟨a, us, h2, rfl, h3, h4⟩ := den_list R hx rx
        refine ⟨a, us, w, rfl, rfl, h3, ?_, ?_⟩
        · rw [h4.len, sizeLine_eq]; omega
        · have ex : Ext H (upd H a (.lst (us ++ [w]))) := Ext.mut h3 True.intro
          exact p et _ List.prefix_rfl ex (R.set hx h2 rfl h3 True.intro ⟨_, upd_same, (h4.app (denL_cons.mpr ⟨w, [], rfl, h1, by simp⟩)).mono List.prefix_rfl ex⟩) _ (by simp)
      · exact p.elim
    · exact p.elim
  · exact p.elim
theorem fExtend_ok : MethS G rExtendR fExtend := by
  intro et H h x v xs vs W Q rx rv R p
  unfold fExtend at p
  split at p
  · split at p
    · split at p
      · rename_i n y _ _ xs' ys hx hy c
        obtain ⟨w, rfl, h1⟩ := list1 rv
        obtain ⟨a, us, h2, rfl, h3, h4⟩ := den_list R hx rx
        obtain ⟨b, ws, rfl, k3, k4⟩ := ls_ok R hy h1
        refine ⟨a, b, us, ws, rfl, rfl, h3, k3, sz (by rw [h4.len, k4.len]; exact c), ?_⟩
        have ex : Ext H (upd H a (.lst (us ++ ws))) := Ext.mut h3 True.intro
        exact p et _ List.prefix_rfl ex (R.set hx h2 rfl h3 True.intro ⟨_, upd_same, (h4.app k4).mono List.prefix_rfl ex⟩) _ (by simp)
      · exact p.elim
    · exact p.elim
  · exact p.elim
theorem sum_len (ys : List (List Nat)) : ((ys.map strV).map (·.length)).sum = (ys.map List.length).sum := by
  rw [List.map_map]
  congr 1
theorem fJoin_ok : MethS G (fun x xs H Q => ∃ a p, ∃ ys : List Str, x = .str a ∧ xs = [.ref p] ∧ (SqL G.K H p (ys.map V.str) ∨ SqT G.K H p (ys.map V.str)) ∧ (ys.map (·.length)).sum + ys.length * a.length ≤ 16777216 ∧ Q (.str (Txt.join a ys)) H) fJoin := by
  intro et H h x v xs vs W Q rx rv R p
  unfold fJoin at p
  split at p
  · rename_i a y
    split at p
    · rename_i ys e
      split at p
      · rename_i c
        obtain ⟨w, rfl, h1⟩ := list1 rv
        simp only [Option.bind_eq_some_iff] at e
        obtain ⟨ds, e1, e2⟩ := e
        obtain ⟨q, us, rfl, h2, h3⟩ := seq_ok R e1 h1
        rw [allM_strs e2] at h3
        rw [h3.strs] at h2
        refine ⟨strV a, q, ys.map strV, den_str.mp rx, rfl, h2, ?_, ?_⟩
        · rw [sum_len, strV_length, List.length_map]; omega
        · exact p.here R _ (by simp [join_ok])
      · exact p.elim
    · exact p.elim
  · exact p.elim
end

/-! ### what a loop walks -/
inductive Src where
  | st (ds : List D)
  | ls (n : Nat)
  /-- what is read of the heap each time -/
  | dy (f : IH → Option (List D))
def Src.get : Src → IH → Nat → Option D
  | .st ds, _, i => ds[i]?
  | .ls n, h, i => (lstOf h (.ref n)).bind fun xs => xs[i]?
  | .dy f, h, i => (f h).bind fun xs => xs[i]?
def Src.ok : Src → IH → Bool
  | .st _, _ => true
  | .ls n, h => (lstOf h (.ref n)).isSome
  | .dy f, h => (f h).isSome
def Src.many : Src → IH → Nat
  | .st ds, _ => ds.length
  | .ls n, h => ((lstOf h (.ref n)).getD []).length
  | .dy f, h => ((f h).getD []).length
/-- the iterator J yields what the source tells -/
def JRel (G : Cf) (et0 : List Addr) (H0 : Hp) (src : Src) (J : It) : Prop := ∀ (et : List Addr) (H : Hp) (h : IH), et0 <+: et → Ext H0 H → HRel G et h H → src.ok h = true → ∀ i : Nat,
  match src.get h i with
  | some d => J.go i H ∧ ∀ x H', J.yld i H x H' → Ext H H' ∧ HRel G et h H' ∧ Den G et H' d x
  | none => J.stop i H
abbrev MI := EV → IH → R Src
def tI (G : Cf) (W : WX) (m : MI) : TI := fun σ H R => ∃ et env h, EnvR G et H env σ ∧ HRel G et h H ∧
  Pst G et H (m env h) (fun et' H' _ src => ∀ J, JRel G et' H' src J → R J H') (fun c d H' => W c d σ H')
theorem PI.imp {X : Cx} {tg iter : Expr} {w w' : TI} (h : PI X tg iter w) (k : ∀ σ H R, w' σ H R → w σ H R) : PI X tg iter w' := ⟨fun pins s σ H R I x => h.run pins s σ H R I (k σ H R x)⟩
abbrev MG := D → EV → Option EV
/-- the target's slots ws get what they get, no other slot changes -/
def OnlyS (ws : List Nat) (σ σ' : L2.St) : Prop := σ'.length = σ.length ∧ ∀ j, j ∉ ws → σ'[j]? = σ[j]?
def tG (G : Cf) (ws : List Nat) (g : MG) : TG := fun v σ H Q => ∃ et env h d, EnvR G et H env σ ∧ HRel G et h H ∧ Den G et H d v ∧ match g d env with
  | some env' => ∀ σ', OnlyS ws σ σ' → EnvR G et H env' σ' → Q σ' H
  | none => False
theorem PG.imp {X : Cx} {e : Expr} {w w' : TG} (h : PG X e w) (k : ∀ v σ H R, w' v σ H R → w v σ H R) : PG X e w' := ⟨fun pins s σ H v u R I r x => h.run pins s σ H v u R I r (k v σ H R x)⟩
def gSet (i : Nat) : MG := fun d env => some (env.set i (some d))
def gSets (is : List Nat) : MG := fun d env => match d with
  | .tup ds => if ds.length = is.length then some ((is.zip ds).foldl (fun e p => e.set p.1 (some p.2)) env) else none
  | .fl ds => if ds.length = is.length then some ((is.zip ds).foldl (fun e p => e.set p.1 (some p.2)) env) else none
  | _ => none
theorem PG.or {X : Cx} {e : Expr} {w w' : TG} (h : PG X e w) (h' : PG X e w') : PG X e (fun v σ H Q => w v σ H Q ∨ w' v σ H Q) := ⟨fun pins s σ H v u Q I r x => by
  rcases x with x | x
  · exact h.run pins s σ H v u Q I r x
  · exact h'.run pins s σ H v u Q I r x⟩
theorem OnlyS.refl (ws : List Nat) (σ : L2.St) : OnlyS ws σ σ := ⟨rfl, fun _ _ => rfl⟩
theorem OnlyS.set {ws : List Nat} {σ σ' : L2.St} (x : OnlyS ws σ σ') {i : Nat} (hi : i ∈ ws) (v : Option V) : OnlyS ws σ (σ'.set i v) :=
  ⟨by rw [List.length_set, x.1], fun j hj => by
    have hne : i ≠ j := fun z => hj (by rw [← z]; exact hi)
    rw [List.getElem?_set_ne hne]; exact x.2 j hj⟩
section
variable {X : Cx} {G : Cf} {W : WX} {e : Expr} {es : List Expr} {pos : Pos}
theorem mg_name (i : Nat) {x : Str} (hN : X.N.Nodup) (hi : X.N[i]? = some x := by rfl) (hx : Loc X.env.scope x := by first | exact Or.inl rfl | exact Or.inr rfl) (hf : X.fn x = true ∨ X.env.scope.names.lookup x = some .local := by first | exact .inl rfl | exact .inr rfl) :
    PG X (.Name x pos) (tG G [i] (gSet i)) := PG.imp (pg_name hN hi hx hf) fun v σ H Q ⟨et, env, h, d, hE, hH, hD, hP⟩ => by
  exact hP _ ((OnlyS.refl _ _).set (by simp) _) (hE.set i hD)
/-- several names -/
inductive PGN (X : Cx) (G : Cf) : List Nat → List Expr → TGs → Prop
  | nil : PGN X G [] [] gNil
  | cons {i : Nat} {is : List Nat} {e : Expr} {es : List Expr} {t : TGs} : PG X e (gName i) → PGN X G is es t → (assignEach (e :: es) X.env).map (·.2) = assign e X.env :: (assignEach es X.env).map (·.2) → PGN X G (i :: is) (e :: es) (gCons (gName i) t)
theorem PGN.pgs {is : List Nat} {es : List Expr} {t : TGs} (h : PGN X G is es t) : PGs X es t := by
  induction h with
  | nil => exact pgs_nil
  | cons h1 h2 h3 ih => exact pgs_cons h1 ih h3
theorem PGN.run {is : List Nat} {es : List Expr} {t : TGs} (h : PGN X G is es t) {et : List Addr} {H : Hp} {env : EV} {σ σ0 : L2.St} {ds : List D} {vs : List V} {ws : List Nat} {Q : L2.St → Hp → Prop} (hE : EnvR G et H env σ) (hD : DenL G et H ds vs) (hl : ds.length = is.length) (hw : ∀ i ∈ is, i ∈ ws)
    (ho : OnlyS ws σ0 σ) (q : ∀ σ', OnlyS ws σ0 σ' → EnvR G et H ((is.zip ds).foldl (fun e p => e.set p.1 (some p.2)) env) σ' → Q σ' H) : t vs σ H Q := by
  induction h generalizing env σ ds vs with
  | nil =>
    cases ds with
    | nil => rw [denL_nil] at hD; exact ⟨hD, q σ ho hE⟩
    | cons _ _ => simp at hl
  | cons h1 h2 h3 ih =>
    rename_i i is' e' es' t'
    cases ds with
    | nil => simp at hl
    | cons d ds =>
      obtain ⟨v, ws', rfl, r1, r2⟩ := denL_cons.mp hD
      refine ⟨v, ws', rfl, ?_⟩
      exact ih (hE.set i r1) r2 (by simpa using hl) (fun j hj => hw j (List.mem_cons_of_mem _ hj)) (ho.set (hw i List.mem_cons_self) _) q
theorem mg_tup {is : List Nat} {t : TGs} {k n : Nat} (hK : X.K = G.K) (hc : X.calm = true) (h : PGN X G is es t) (hln : is.length = n := by rfl) (hn : (assignEach es X.env).length = n := by rfl) (hst : (assignEach es X.env).findIdx? (·.1) = none := by rfl) :
    PG X (.Tuple es k pos) (tG G is (gSets is)) := PG.imp (PG.or (pg_tup hc h.pgs hn hst) (pg_unl hc h.pgs hn hst)) fun v σ H Q ⟨et, env, h0, d, hE, hH, hD, hP⟩ => by
  unfold gSets at hP
  cases d with
  | tup ds =>
    simp only at hP
    split at hP
    · rename_i hl
      split at hl
      · rename_i l
        obtain ⟨a, vs, rfl, r1, r2⟩ := den_tup.mp hD
        cases hl
        rw [hK]
        exact .inl ⟨a, vs, rfl, r1, by rw [r2.len, l, hln], h.run hE r2 l (fun i hi => hi) (OnlyS.refl _ _) fun σ' o hE' => hP σ' o hE'⟩
      · cases hl
    · exact hP.elim
  | fl ds =>
    simp only at hP
    split at hP
    · rename_i hl
      split at hl
      · rename_i l
        obtain ⟨a, vs, rfl, r1, r2⟩ := den_fl.mp hD
        cases hl
        rw [hK]
        exact .inr ⟨a, vs, rfl, r1.sq, by rw [r2.len, l, hln], h.run hE r2 l (fun i hi => hi) (OnlyS.refl _ _) fun σ' o hE' => hP σ' o hE'⟩
      · cases hl
    · exact hP.elim
  | _ => exact hP.elim
end
end NR

set_option Elab.async false
set_option linter.all false
set_option maxRecDepth 100000
/-! Loops, comprehensions. -/
namespace NR
open PySem PySem.Spec PyProof.Rows L2

/-! ### sources -/
/-- a list or a tuple or a text, as it comes -/
def iSeq (m : ME) : MI := fun env h => (m env h).bind fun x h1 => match x with
  | .ref n => if (lstOf h1 (.ref n)).isSome then .ok (.ls n) h1 else .no
  | .tup l => .ok (.st l) h1
  | .fl l => .ok (.st l) h1
  | .str s => if s.length ≤ 10000000 then .ok (.st (s.map fun c => .str [c])) h1 else .no
  | _ => .no
def intsFrom (lo : Int) (n : Nat) : List D := (List.range n).map fun i => .int (lo + (i : Nat))
def iRange1 (m : MA) : MI := fun env h => (m env h).bind fun xs h1 => match xs with
  | [.int j] => if -10000000 ≤ j ∧ j ≤ 10000000 then .ok (.st (intsFrom 0 j.toNat)) h1 else .no
  | _ => .no
def iRange2 (m : MA) : MI := fun env h => (m env h).bind fun xs h1 => match xs with
  | [.int i, .int j] => if -10000000 ≤ i ∧ i ≤ 10000000 ∧ -10000000 ≤ j ∧ j ≤ 10000000 then .ok (.st (intsFrom i (j - i).toNat)) h1 else .no
  | _ => .no
section
variable {X : Cx} {G : Cf} {W : WX} {e tg : Expr} {es : List Expr} {me : ME} {mt : MA} {pos p : Pos}
/-- a walk of what e holds: a list, a tuple, a text (the reading takes any of the three) -/
theorem pi_any {te : TE} (he : PE X e te) : PI X tg e (fun σ H R => iList X.K te σ H R ∨ iTup X.K te σ H R ∨ iStr te σ H R) :=
  ⟨fun pins s σ H R I x => by
    rcases x with x | x | x
    · exact (pi_list he).run pins s σ H R I x
    · exact (pi_tup he).run pins s σ H R I x
    · exact (pi_str he).run pins s σ H R I x⟩
theorem jrel_list {et : List Addr} {H : Hp} {n : Nat} {a : Addr} (e : et[n]? = some a) : JRel G et H (.ls n) (Itl G.K a) := by
  intro et1 H1 h1 p ex R ok i
  have e1 : et1[n]? = some a := by
    obtain ⟨t, rfl⟩ := p
    rw [List.getElem?_append_left (List.getElem?_eq_some_iff.mp e).1]
    exact e
  have ok' : (lstOf h1 (.ref n)).isSome = true := ok
  obtain ⟨xs, hx⟩ := Option.isSome_iff_exists.mp ok'
  obtain ⟨b, vs, hb, h2, h3⟩ := lst_ok R hx (den_ref.mpr ⟨a, e1, rfl⟩)
  cases hb
  show match (lstOf h1 (.ref n)).bind fun xs => xs[i]? with
    | some d => _
    | none => _
  rw [hx]
  show match xs[i]? with
    | some d => _
    | none => _
  cases hd : xs[i]? with
  | some d =>
    obtain ⟨v, hv, r⟩ := h3.get hd
    refine ⟨⟨vs, v, h2, hv⟩, fun x H' ⟨hH, hy⟩ => ?_⟩
    rw [hH]
    have := hy vs h2
    rw [hv] at this
    cases this
    exact ⟨Ext.refl _, R, r⟩
  | none =>
    refine ⟨vs, h2, ?_⟩
    rw [h3.len]
    exact List.getElem?_eq_none_iff.mp hd
theorem jrel_st {et : List Addr} {H : Hp} {l : List D} {J : It} (k : ∀ (et1 : List Addr) (H1 : Hp) (h1 : IH), et <+: et1 → Ext H H1 → HRel G et1 h1 H1 → ∀ i : Nat, match l[i]? with
    | some d => J.go i H1 ∧ ∀ x H', J.yld i H1 x H' → Ext H1 H' ∧ HRel G et1 h1 H' ∧ Den G et1 H' d x
    | none => J.stop i H1) : JRel G et H (.st l) J := fun et1 H1 h1 p ex R _ i => k et1 H1 h1 p ex R i
theorem mi_seq (hK : X.K = G.K) (he : PE X e (tE G W me)) : PI X tg e (tI G W (iSeq me)) := PI.imp (pi_any he) fun σ H R ⟨et, env, h, hE, hH, hP⟩ => by
  unfold iSeq at hP
  rw [hK]
  cases hr : me env h with
  | no => rw [hr] at hP; exact hP.elim
  | ex c d h1 =>
    rw [hr] at hP
    exact .inl ⟨et, env, h, hE, hH, by rw [hr]; exact hP⟩
  | ok x h1 =>
    rw [hr] at hP
    cases x with
    | ref n =>
      refine .inl ⟨et, env, h, hE, hH, ?_⟩
      rw [hr]
      refine fun et1 H1 p e R1 v hv => ?_
      obtain ⟨a, ha, rfl⟩ := den_ref.mp hv
      have q : Pst G et H (if (lstOf h1 (.ref n)).isSome then NR.R.ok (Src.ls n) h1 else .no) (fun et' H' _ src => ∀ J, JRel G et' H' src J → R J H') (fun c d H' => W c d σ H') := hP
      split at q
      · rename_i ok
        obtain ⟨xs, hx⟩ := Option.isSome_iff_exists.mp ok
        obtain ⟨b, vs, hb, h2, h3⟩ := lst_ok R1 hx hv
        cases hb
        exact ⟨a, rfl, ⟨vs, h2⟩, q et1 H1 p e R1 _ (jrel_list ha)⟩
      · exact q.elim
    | tup l =>
      refine .inr (.inl ⟨et, env, h, hE, hH, ?_⟩)
      rw [hr]
      refine fun et1 H1 p e R1 v hv => ?_
      obtain ⟨a, vs, rfl, h2, h3⟩ := den_tup.mp hv
      refine ⟨a, rfl, ⟨vs, h2⟩, hP et1 H1 p e R1 _ (jrel_st fun et2 H2 h2' p2 e2 R2 i => ?_)⟩
      cases hd : l[i]? with
      | none =>
        refine ⟨vs, e2.sqT h2, ?_⟩
        rw [h3.len]
        exact List.getElem?_eq_none_iff.mp hd
      | some d =>
        obtain ⟨v, hv, r⟩ := h3.get hd
        refine ⟨⟨vs, v, e2.sqT h2, hv⟩, fun x H' ⟨hH, hy⟩ => ?_⟩
        rw [hH]
        have := hy vs (e2.sqT h2)
        rw [hv] at this
        cases this
        exact ⟨Ext.refl _, R2, r.mono p2 e2⟩
    | fl l =>
      refine .inl ⟨et, env, h, hE, hH, ?_⟩
      rw [hr]
      refine fun et1 H1 p e R1 v hv => ?_
      obtain ⟨a, vs, rfl, h2, h3⟩ := den_fl.mp hv
      refine ⟨a, rfl, ⟨vs, h2.sq⟩, hP et1 H1 p e R1 _ (jrel_st fun et2 H2 h2' p2 e2 R2 i => ?_)⟩
      cases hd : l[i]? with
      | none =>
        refine ⟨vs, (h2.ext e2).sq, ?_⟩
        rw [h3.len]
        exact List.getElem?_eq_none_iff.mp hd
      | some d =>
        obtain ⟨v, hv, r⟩ := h3.get hd
        refine ⟨⟨vs, v, (h2.ext e2).sq, hv⟩, fun x H' ⟨hH, hy⟩ => ?_⟩
        rw [hH]
        have := hy vs (h2.ext e2).sq
        rw [hv] at this
        cases this
        exact ⟨Ext.refl _, R2, r.mono p2 e2⟩
    | str s =>
      refine .inr (.inr ⟨et, env, h, hE, hH, ?_⟩)
      rw [hr]
      refine fun et1 H1 p e R1 v hv => ?_
      have q : Pst G et H (if s.length ≤ 10000000 then NR.R.ok (Src.st (s.map fun c => .str [c])) h1 else .no) (fun et' H' _ src => ∀ J, JRel G et' H' src J → R J H') (fun c d H' => W c d σ H') := hP
      split at q
      · refine ⟨strV s, den_str.mp hv, q et1 H1 p e R1 _ (jrel_st fun et2 H2 h2' p2 e2 R2 i => ?_)⟩
        rw [List.getElem?_map]
        cases hs : s[i]? with
        | none =>
          show (strV s).cps.size ≤ i
          simp [strV]
          exact List.getElem?_eq_none_iff.mp hs
        | some c =>
          refine ⟨?_, fun x H' ⟨hH, c', hc, hx⟩ => ?_⟩
          · show i < (strV s).cps.size
            simp [strV]
            exact (List.getElem?_eq_some_iff.mp hs).1
          · subst hx
            rw [hH]
            have : c' = c := by
              have h5 : s[i]? = some c' := by simpa [strV] using hc
              rw [hs] at h5
              exact (Option.some.inj h5).symm
            subst this
            exact ⟨Ext.refl _, R2, by simp [strV]⟩
      · exact q.elim
    | _ => exact hP.elim
theorem ints_get (lo : Int) (n i : Nat) : (intsFrom lo n)[i]? = if i < n then some (.int (lo + (i : Nat))) else none := by
  unfold intsFrom
  rw [List.getElem?_map]
  by_cases h : i < n
  · rw [if_pos h, List.getElem?_range h]
    rfl
  · rw [if_neg h, List.getElem?_eq_none (by simpa using h)]
    rfl
theorem jrel_ints {et : List Addr} {H : Hp} {lo : Int} {n : Nat} : JRel G et H (.st (intsFrom lo n)) (Itr lo n) := jrel_st fun et1 H1 h1 p ex R i => by
  rw [ints_get]
  by_cases h : i < n
  · rw [if_pos h]
    refine ⟨h, fun x H' ⟨hH, hx⟩ => ?_⟩
    rw [hH, hx]
    exact ⟨Ext.refl _, R, by simp⟩
  · rw [if_neg h]
    show n ≤ i
    omega
theorem mi_range1 {a : Expr} (ha : PA X [a] (tA G W mt)) (hm : X.mg "range" = none) (hg : Gl X "range" := by rfl) (hs : starEach [a] X.env = [(false, eval a X.env)] := by rfl) : PI X tg (.Call (.Name "range" p) [a] [] pos) (tI G W (iRange1 mt)) :=
  PI.imp (pi_range1 hg hm ha hs) fun σ H R ⟨et, env, h, hE, hH, hP⟩ => by
    refine ⟨et, env, h, hE, hH, (Pst.of_bind hP).imp fun et1 H1 h1 xs p e hr q vs hv => ?_⟩
    split at q
    · split at q
      · rename_i j c
        obtain ⟨v, rfl, r⟩ := list1 hv
        exact ⟨j, by rw [den_int.mp r], by omega, by omega, q.here hr _ jrel_ints⟩
      · exact q.elim
    · exact q.elim
theorem mi_range2 {a b : Expr} (ha : PA X [a, b] (tA G W mt)) (hm : X.mg "range" = none) (hg : Gl X "range" := by rfl) (hs : starEach [a, b] X.env = [(false, eval a X.env), (false, eval b X.env)] := by rfl) (hs2 : starEach [b] X.env = [(false, eval b X.env)] := by rfl) : PI X tg (.Call (.Name "range" p) [a, b] [] pos) (tI G W (iRange2 mt)) :=
  PI.imp (pi_range2 hg hm ha hs hs2) fun σ H R ⟨et, env, h, hE, hH, hP⟩ => by
    refine ⟨et, env, h, hE, hH, (Pst.of_bind hP).imp fun et1 H1 h1 xs p e hr q vs hv => ?_⟩
    split at q
    · split at q
      · rename_i i j c
        obtain ⟨v, w, rfl, r1, r2⟩ := list2 hv
        exact ⟨i, j, by rw [den_int.mp r1, den_int.mp r2], by omega, q.here hr _ jrel_ints⟩
      · exact q.elim
    · exact q.elim
end

/-! ### for -/
def forM (src : Src) (g : MG) (b : MS) : Nat → Nat → EV → IH → RS
  | 0, _, _, _ => .no
  | m + 1, i, env, h => if src.ok h = true then (match src.get h i with
    | none => .nx env h
    | some d => match g d env with
      | none => .no
      | some e1 => match b e1 h with
        | .nx e2 h2 => forM src g b m (i + 1) e2 h2
        | .ct e2 h2 => forM src g b m (i + 1) e2 h2
        | .bk e2 h2 => .nx e2 h2
        | r => r) else .no
def msFor (it : MI) (g : MG) (b : MS) : MS := fun env h => (it env h).bindS env fun src h1 => forM src g b (src.many h1 + 1) 0 env h1
section
variable {X : Cx} {G : Cf} {W : WX} {iter tg : Expr} {body : List Stmt} {it : MI} {g : MG} {ws : List Nat} {b : MS} {pos : Pos}
theorem ms_for (hc : X.calm = true) (hp : PassesOwn (model X.prog X.w) X.A X.env X.xe) (hi : PI X tg iter (tI G W it)) (hg : PG X tg (tG G ws g)) (hb : PSs X body (tS G W b)) (hs : ∀ x, foldedSetIterable iter X.env x = pure x := by intro _; rfl) :
    PS X (.For tg iter body [] pos) (tS G W (msFor it g b)) := PS.imp (ps_for hp hc hi hg hb hs) fun D σ H ⟨et, env, h, hE, hH, hP⟩ => by
  refine ⟨et, env, h, hE, hH, (PstS.of_bind hE hP).imp fun et1 H1 h1 src p e hr q J hJ => ?_⟩
  refine ⟨fun i m σ H => ∃ et2 env h, et1 <+: et2 ∧ Ext H1 H ∧ EnvR G et2 H env σ ∧ HRel G et2 h H ∧ PstS G et2 H (forM src g b m i env h) D W, ⟨_, et1, env, h1, List.prefix_rfl, Ext.refl _, hE.mono p e, hr, q⟩, fun i m σ H ⟨et2, env, h, pp, ee, hE2, hr2, q2⟩ => ?_⟩
  cases m with
  | zero => exact q2.elim
  | succ m =>
    unfold forM at q2
    split at q2
    · rename_i hok
      have j := hJ et2 H h pp ee hr2 hok i
      revert j q2
      cases hd : src.get h i with
      | none =>
        intro q2 j
        exact .inl ⟨j, q2 et2 H σ List.prefix_rfl (Ext.refl _) hr2 hE2⟩
      | some d =>
        intro q2 j
        dsimp only at q2
        refine .inr ⟨j.1, fun σ' H' => ∃ et3 env3 h3, et1 <+: et3 ∧ Ext H1 H' ∧ EnvR G et3 H' env3 σ' ∧ HRel G et3 h3 H' ∧ PstS G et3 H' (forM src g b m (i + 1) env3 h3) D W, fun σ' H' x => ⟨m, Nat.lt_succ_self m, x⟩, fun x H' hy => ?_⟩
        obtain ⟨ex, hr3, hx⟩ := j.2 x H' hy
        refine ⟨et2, env, h, d, hE2.mono List.prefix_rfl ex, hr3, hx, ?_⟩
        cases hgd : g d env with
        | none => rw [hgd] at q2; exact q2.elim
        | some e1 =>
          rw [hgd] at q2
          dsimp only at q2
          refine fun σ' _ hE' => ⟨et2, e1, h, hE', hr3, ?_⟩
          have q3 := q2
          revert q3
          cases hbr : b e1 h with
          | nx e2 h2 => exact fun q3 et' H'' σ'' p3 e3 hr4 hE4 => ⟨et', e2, h2, pp.trans p3, (ee.trans ex).trans e3, hE4, hr4, PstS.weak p3 (ex.trans e3) q3⟩
          | ct e2 h2 => exact fun q3 et' H'' σ'' p3 e3 hr4 hE4 => ⟨et', e2, h2, pp.trans p3, (ee.trans ex).trans e3, hE4, hr4, PstS.weak p3 (ex.trans e3) q3⟩
          | bk e2 h2 => exact fun q3 et' H'' σ'' p3 e3 hr4 hE4 => q3 et' H'' σ'' p3 (ex.trans e3) hr4 hE4
          | rt d2 h2 => exact fun q3 et' H'' v p3 e3 hr4 hv => q3 et' H'' v p3 (ex.trans e3) hr4 hv
          | ex c d2 e2 h2 => exact fun q3 et' H'' σ'' cls dd p3 e3 hr4 hE4 hx => q3 et' H'' σ'' cls dd p3 (ex.trans e3) hr4 hE4 hx
          | no => exact fun q3 => q3
    · exact q2.elim
end

/-! ### while -/
def whN (c : MT) (b : MS) : Nat → EV → IH → Option RS
  | 0, _, _ => none
  | k + 1, env, h => match c env h with
    | .ok true h1 => match b env h1 with
      | .nx e2 h2 => whN c b k e2 h2
      | .ct e2 h2 => whN c b k e2 h2
      | .bk e2 h2 => some (.nx e2 h2)
      | r => some r
    | .ok false h1 => some (.nx env h1)
    | .ex cl d h1 => some (.ex cl d env h1)
    | .no => some .no
open Classical in
noncomputable def msWhile (c : MT) (b : MS) : MS := fun env h => if x : ∃ r, ∃ k, whN c b k env h = some r then x.choose else .no
theorem whN_mono {c : MT} {b : MS} : ∀ {k j : Nat} {env : EV} {h : IH} {r : RS}, whN c b k env h = some r → k ≤ j → whN c b j env h = some r
  | 0, _, _, _, _, e, _ => by simp [whN] at e
  | k + 1, 0, _, _, _, _, l => absurd l (Nat.not_succ_le_zero _)
  | k + 1, j + 1, env, h, r, e, l => by
    unfold whN at e ⊢
    have l' : k ≤ j := Nat.le_of_succ_le_succ l
    revert e
    cases c env h with
    | ok a h1 =>
      cases a with
      | false => exact fun e => e
      | true =>
        dsimp only
        cases b env h1 with
        | nx e2 h2 => exact fun e => whN_mono e l'
        | ct e2 h2 => exact fun e => whN_mono e l'
        | bk e2 h2 => exact fun e => e
        | rt d2 h2 => exact fun e => e
        | ex c d2 e2 h2 => exact fun e => e
        | no => exact fun e => e
    | ex cl d h1 => exact fun e => e
    | no => exact fun e => e
theorem msWhile_of {c : MT} {b : MS} {k : Nat} {env : EV} {h : IH} {r : RS} (e : whN c b k env h = some r) : msWhile c b env h = r := by
  unfold msWhile
  have x : ∃ r, ∃ k, whN c b k env h = some r := ⟨r, k, e⟩
  rw [dif_pos x]
  obtain ⟨j, hj⟩ := x.choose_spec
  have h1 := whN_mono e (Nat.le_max_left k j)
  have h2 := whN_mono hj (Nat.le_max_right k j)
  rw [h1] at h2
  exact (Option.some.inj h2).symm
/-- one turn of a while -/
theorem msWhile_eq (c : MT) (b : MS) (env : EV) (h : IH) : msWhile c b env h = match c env h with
    | .ok true h1 => match b env h1 with
      | .nx e2 h2 => msWhile c b e2 h2
      | .ct e2 h2 => msWhile c b e2 h2
      | .bk e2 h2 => .nx e2 h2
      | r => r
    | .ok false h1 => .nx env h1
    | .ex cl d h1 => .ex cl d env h1
    | .no => .no := by
  have go : ∀ e2 h2, (∀ k, whN c b (k + 1) env h = whN c b k e2 h2) → msWhile c b env h = msWhile c b e2 h2 := fun e2 h2 hk => by
    by_cases x : ∃ r, ∃ k, whN c b k e2 h2 = some r
    · obtain ⟨r, k, e⟩ := x
      rw [msWhile_of e]
      exact msWhile_of (k := k + 1) (by rw [hk]; exact e)
    · have y : ¬ ∃ r, ∃ k, whN c b k env h = some r := fun ⟨r, k, e⟩ => by
        cases k with
        | zero => simp [whN] at e
        | succ k => rw [hk] at e; exact x ⟨r, k, e⟩
      unfold msWhile
      rw [dif_neg x, dif_neg y]
  cases hc : c env h with
  | ok a h1 =>
    cases a with
    | false => exact msWhile_of (k := 1) (by unfold whN; rw [hc])
    | true =>
      dsimp only
      cases hb : b env h1 with
      | nx e2 h2 => exact go e2 h2 fun k => by conv => lhs; unfold whN; rw [hc]; dsimp only; rw [hb]
      | ct e2 h2 => exact go e2 h2 fun k => by conv => lhs; unfold whN; rw [hc]; dsimp only; rw [hb]
      | bk e2 h2 => exact msWhile_of (k := 1) (by unfold whN; rw [hc]; dsimp only; rw [hb])
      | rt d2 h2 => exact msWhile_of (k := 1) (by unfold whN; rw [hc]; dsimp only; rw [hb])
      | ex cl d2 e2 h2 => exact msWhile_of (k := 1) (by unfold whN; rw [hc]; dsimp only; rw [hb])
      | no => exact msWhile_of (k := 1) (by unfold whN; rw [hc]; dsimp only; rw [hb])
  | ex cl d h1 => exact msWhile_of (k := 1) (by unfold whN; rw [hc])
  | no => exact msWhile_of (k := 1) (by unfold whN; rw [hc])
section
variable {X : Cx} {G : Cf} {W : WX} {c : Expr} {body : List Stmt} {mc : MT} {b : MS} {pos : Pos}
theorem ms_while (hp : PassesOwn (model X.prog X.w) X.A X.env X.xe) (hc : PT X c (tT G W mc)) (hb : PSs X body (tS G W b)) : PS X (.While c body [] pos) (tS G W (msWhile mc b)) := PS.imp (ps_while hp hc hb) fun D σ H ⟨et, env, h, hE, hH, hP⟩ => by
  unfold msWhile at hP
  split at hP
  · rename_i x
    refine ⟨fun m σ H => ∃ et env h r, EnvR G et H env σ ∧ HRel G et h H ∧ whN mc b m env h = some r ∧ PstS G et H r D W, ⟨_, et, env, h, _, hE, hH, x.choose_spec.choose_spec, hP⟩, ?_⟩
    rintro m σ H ⟨et, env, h, r, hE, hH, e, hP⟩
    cases m with
    | zero => simp [whN] at e
    | succ m =>
      unfold whN at e
      refine ⟨et, env, h, hE, hH, ?_⟩
      revert e
      cases mc env h with
      | ok a h1 =>
        cases a with
        | false =>
          intro e
          cases e
          exact fun et1 H1 p ex hr => (show D.nx σ H1 from hP et1 H1 σ p ex hr (hE.mono p ex))
        | true =>
          intro e et1 H1 p ex hr
          dsimp only
          rw [if_pos rfl]
          refine ⟨fun σ' H' => ∃ et env h r, EnvR G et H' env σ' ∧ HRel G et h H' ∧ whN mc b m env h = some r ∧ PstS G et H' r D W, fun σ' H' x => ⟨m, Nat.lt_succ_self m, x⟩, et1, env, h1, hE.mono p ex, hr, ?_⟩
          dsimp only at e
          revert e
          cases hb : b env h1 with
          | nx e2 h2 => exact fun e et2 H2 σ2 p2 ex2 hr2 hE2 => ⟨et2, e2, h2, r, hE2, hr2, e, PstS.weak (p.trans p2) (ex.trans ex2) hP⟩
          | ct e2 h2 => exact fun e et2 H2 σ2 p2 ex2 hr2 hE2 => ⟨et2, e2, h2, r, hE2, hr2, e, PstS.weak (p.trans p2) (ex.trans ex2) hP⟩
          | bk e2 h2 => intro e; cases e; exact fun et2 H2 σ2 p2 ex2 hr2 hE2 => hP et2 H2 σ2 (p.trans p2) (ex.trans ex2) hr2 hE2
          | rt d2 h2 => intro e; cases e; exact fun et2 H2 v p2 ex2 hr2 hv => hP et2 H2 v (p.trans p2) (ex.trans ex2) hr2 hv
          | ex cl d2 e2 h2 => intro e; cases e; exact fun et2 H2 σ2 cls dd p2 ex2 hr2 hE2 hx => hP et2 H2 σ2 cls dd (p.trans p2) (ex.trans ex2) hr2 hE2 hx
          | no => intro e; cases e; exact hP.elim
      | ex cl d h1 => intro e; cases e; exact fun et1 H1 cls dd p ex hr hx => hP et1 H1 σ cls dd p ex hr (hE.mono p ex) hx
      | no => intro e; cases e; exact hP.elim
  · exact hP.elim
end
end NR

set_option Elab.async false
set_option linter.all false
set_option maxRecDepth 100000
/-! Comprehensions, isinstance, the end. -/
namespace NR
open PySem PySem.Spec PyProof.Rows L2

def wipeE (env : EV) : List Nat → EV
  | [] => env
  | v :: vs => (wipeE env vs).set v none
abbrev W0 : WX := fun _ _ _ _ => False
theorem wipe_get (σ : L2.St) (j : Nat) : ∀ vs : List Nat, (wipe σ vs)[j]? = if j ∈ vs then (if j < σ.length then some none else none) else σ[j]?
  | [] => by simp [wipe]
  | v :: vs => by
    unfold wipe
    by_cases h : v = j
    · subst h
      rw [if_pos List.mem_cons_self]
      by_cases hl : v < σ.length
      · rw [List.getElem?_set_self (by rw [wipe_length]; exact hl), if_pos hl]
      · rw [List.getElem?_eq_none (by rw [List.length_set, wipe_length]; omega), if_neg hl]
    · rw [List.getElem?_set_ne h, wipe_get σ j vs]
      have : (j ∈ v :: vs) ↔ j ∈ vs := by
        rw [List.mem_cons]
        exact ⟨fun z => z.elim (fun z => absurd z.symm h) id, .inr⟩
      simp only [this]
theorem wipe_again {σ σ2 : L2.St} {vs : List Nat} (h : OnlyS vs (wipe σ vs) σ2) : wipe σ2 vs = wipe σ vs := by
  apply List.ext_getElem?
  intro j
  rw [wipe_get, wipe_get]
  have hl : σ2.length = σ.length := by rw [h.1, wipe_length]
  by_cases hj : j ∈ vs
  · rw [if_pos hj, if_pos hj, hl]
  · rw [if_neg hj, if_neg hj, h.2 j hj, wipe_out hj]
theorem EnvR.wipe {G : Cf} {et : List Addr} {H : Hp} {env : EV} {σ : L2.St} (x : EnvR G et H env σ) : ∀ vs : List Nat, EnvR G et H (wipeE env vs) (wipe σ vs)
  | [] => x
  | v :: vs => by
    have ih := x.wipe vs
    unfold wipeE L2.wipe
    refine ⟨by simp [ih.1], fun i d e => ?_⟩
    by_cases h : v = i
    · subst h
      by_cases hl : v < (wipeE env vs).length
      · rw [List.getElem?_set_self hl] at e; cases e
      · rw [List.getElem?_eq_none (by rw [List.length_set]; omega)] at e; cases e
    · rw [List.getElem?_set_ne h] at e
      obtain ⟨u, a, b⟩ := ih.2 i d e
      exact ⟨u, by rw [List.getElem?_set_ne h]; exact a, b⟩
def mYes : MT := fun _ h => .ok true h
def lcM (src : Src) (g : MG) (t : MT) (e : ME) (n : Nat) : Nat → Nat → EV → IH → R D
  | 0, _, _, _ => .no
  | m + 1, i, env, h => if src.ok h = true then (match src.get h i with
    | none => .ok (.ref n) h
    | some d => match g d env with
      | none => .no
      | some e1 => match t e1 h with
        | .ok true h2 => match e e1 h2 with
          | .ok y h3 => match h3[n]? with
            | some (.lst acc) => if acc.length < 10000000 then lcM src g t e n m (i + 1) env (h3.set n (.lst (acc ++ [y]))) else .no
            | _ => .no
          | _ => .no
        | .ok false h2 => lcM src g t e n m (i + 1) env h2
        | _ => .no) else .no
def mLc (it : MI) (g : MG) (t : MT) (e : ME) (ws : List Nat) : ME := fun env h => (it env h).bind fun src h1 => lcM src g t e h1.length (src.many h1 + 1) 0 (wipeE env ws) (h1 ++ [.lst []])
section
variable {X : Cx} {G : Cf} {W : WX} {elt tg iter : Expr} {ifs : List Expr} {scope : Scope} {own : List (Str × Nat)} {it : MI} {g : MG} {t : MT} {e : ME} {pos : Pos}
theorem mts_nil : PTs X [] (tT G W mYes) := ⟨fun pins s σ H Q I ⟨et, env, h, hE, hH, hP⟩ => pts_nil.run pins s σ H Q I (show Q true H from hP.here hH)⟩
theorem mts_one {c : Expr} {m : MT} (h : PT X c (tT G W m)) : PTs X [c] (tT G W m) := pts_one h
theorem tLc_of {σ : L2.St} {H : Hp} {Q : VK} (x : tE G W (mLc it g t e (own.map (·.2))) σ H Q) : tLc (tI G W it) (tG G (own.map (·.2)) g) (tT G W0 t) (tE G W0 e) (own.map (·.2)) σ H Q := by
  obtain ⟨et, env, h, hE, hH, hP⟩ := x
  refine ⟨et, env, h, hE, hH, (Pst.of_bind hP).imp fun et1 H1 h1 src p ex hr q J hJ Dd hD => ?_⟩
  have pf : et1 <+: et1 ++ [Dd] := List.prefix_append _ _
  have ex0 : Ext H1 (upd H1 Dd (.lst [])) := Ext.new hD
  have hr0 : HRel G (et1 ++ [Dd]) (h1 ++ [.lst []]) (upd H1 Dd (.lst [])) := hr.push hD ⟨[], upd_same, by simp⟩
  have hE0 : EnvR G (et1 ++ [Dd]) (upd H1 Dd (.lst [])) env σ := (hE.mono p ex).mono pf ex0
  have at0 : (et1 ++ [Dd])[h1.length]? = some Dd := by
    rw [← hr.len, List.getElem?_append_right (Nat.le_refl _), Nat.sub_self]
    rfl
  refine ⟨fun i m H => ∃ et2 h, et1 ++ [Dd] <+: et2 ∧ Ext H1 H ∧ EnvR G et2 H (wipeE env (own.map (·.2))) (wipe σ (own.map (·.2))) ∧ HRel G et2 h H ∧ Pst G et2 H (lcM src g t e h1.length m i (wipeE env (own.map (·.2))) h) (fun et' H' _ d => ∀ v, Den G et' H' d v → Q v H') (fun c d H' => W c d σ H'),
    ⟨_, et1 ++ [Dd], h1 ++ [.lst []], List.prefix_rfl, ex0, hE0.wipe _, hr0, Pst.weak pf ex0 q⟩, fun i m H ⟨et2, h, pp, ee, hE2, hr2, q2⟩ => ?_⟩
  have at2 : et2[h1.length]? = some Dd := by
    obtain ⟨t2, rfl⟩ := pp
    rw [List.getElem?_append_left (List.getElem?_eq_some_iff.mp at0).1]
    exact at0
  cases m with
  | zero => exact q2.elim
  | succ m =>
    unfold lcM at q2
    split at q2
    · rename_i hok
      have j := hJ et2 H h (pf.trans pp) ee hr2 hok i
      revert j q2
      cases hd : src.get h i with
      | none =>
        intro q2 j
        exact .inl ⟨j, q2.here hr2 _ (den_ref.mpr ⟨Dd, at2, rfl⟩)⟩
      | some d =>
        intro q2 j
        dsimp only at q2
        refine .inr ⟨j.1, fun H' => ∃ et3 h3, et1 ++ [Dd] <+: et3 ∧ Ext H1 H' ∧ EnvR G et3 H' (wipeE env (own.map (·.2))) (wipe σ (own.map (·.2))) ∧ HRel G et3 h3 H' ∧ Pst G et3 H' (lcM src g t e h1.length m (i + 1) (wipeE env (own.map (·.2))) h3) (fun et' H' _ d => ∀ v, Den G et' H' d v → Q v H') (fun c d H' => W c d σ H'),
          fun H' x => ⟨m, Nat.lt_succ_self m, x⟩, fun x H' hy => ?_⟩
        obtain ⟨ex1, hr3, hx⟩ := j.2 x H' hy
        have hE3 := hE2.mono List.prefix_rfl ex1
        refine ⟨et2, _, h, d, hE3, hr3, hx, ?_⟩
        cases hgd : g d (wipeE env (own.map (·.2))) with
        | none => rw [hgd] at q2; exact q2.elim
        | some e1 =>
          rw [hgd] at q2
          dsimp only at q2
          refine fun σ2 o2 hE4 => ⟨wipe_again o2, et2, e1, h, hE4, hr3, ?_⟩
          revert q2
          cases ht : t e1 h with
          | no => exact fun q2 => q2
          | ex _ _ _ => exact fun q2 => q2.elim
          | ok b h2 =>
            cases b with
            | false =>
              intro q2 et4 H4 p4 ex4 hr4
              dsimp only
              rw [if_neg Bool.false_ne_true]
              exact ⟨et4, h2, pp.trans p4, (ee.trans ex1).trans ex4, hE3.mono p4 ex4, hr4, Pst.weak p4 (ex1.trans ex4) q2⟩
            | true =>
              intro q2 et4 H4 p4 ex4 hr4
              dsimp only at q2 ⊢
              rw [if_pos rfl]
              refine ⟨et4, e1, h2, hE4.mono p4 ex4, hr4, ?_⟩
              revert q2
              cases he : e e1 h2 with
              | no => exact fun q2 => q2
              | ex _ _ _ => exact fun q2 => q2.elim
              | ok y h3 =>
                intro q2 et5 H5 p5 ex5 hr5 v hv
                dsimp only at q2
                split at q2
                · rename_i acc hacc
                  split at q2
                  · rename_i hl
                    have at5 : et5[h1.length]? = some Dd := by
                      obtain ⟨t5, rfl⟩ := p4.trans p5
                      rw [List.getElem?_append_left (List.getElem?_eq_some_iff.mp at2).1]
                      exact at2
                    obtain ⟨us, hus, dus⟩ := hr5.cell _ _ _ hacc at5
                    have ex6 : Ext H5 (upd H5 Dd (.lst (us ++ [v]))) := Ext.mut hus True.intro
                    have hr6 := hr5.set (u := .lst (us ++ [v])) (c' := .lst (acc ++ [y])) hacc at5 rfl hus True.intro ⟨_, upd_same, (dus.app (denL_cons.mpr ⟨v, [], rfl, hv, by simp⟩)).mono List.prefix_rfl ex6⟩
                    refine ⟨us, hus, by rw [dus.len, sizeLine_eq]; omega, et5, _, (pp.trans p4).trans p5, (((ee.trans ex1).trans ex4).trans ex5).trans ex6, ((hE3.mono p4 ex4).mono p5 ex5).mono List.prefix_rfl ex6, hr6, ?_⟩
                    exact Pst.weak (p4.trans p5) (((ex1.trans ex4).trans ex5).trans ex6) q2
                  · exact q2.elim
                · exact q2.elim
    · exact q2.elim
theorem me_lc (hc : X.calm = true) (hN : X.N.Nodup) (hi : PI X tg iter (tI G W it)) (ok : BlkOk X.N X.env.scope scope own)
    (hg : ∀ (s : Shared) (H : Hp) (C : Addr) (cl : List (Str × Addr)) (fp : List Addr), PG (X.blk s H scope (compEnvC scope cl C X.env) fp) tg (tG G (own.map (·.2)) g))
    (ht : ∀ (s : Shared) (H : Hp) (C : Addr) (cl : List (Str × Addr)) (fp : List Addr), PTs (X.blk s H scope (compEnvC scope cl C X.env) fp) ifs (tT G W0 t))
    (he : ∀ (s : Shared) (H : Hp) (C : Addr) (cl : List (Str × Addr)) (fp : List Addr), PE (X.blk s H scope (compEnvC scope cl C X.env) fp) elt (tE G W0 e)) (hs : ∀ x, foldedSetIterable iter X.env x = pure x := by intro _; rfl) :
    PE X (.ListComp elt [⟨tg, iter, ifs, 0⟩] scope pos) (tE G W (mLc it g t e (own.map (·.2)))) := PE.imp (pe_lc hc hN hi ok hg ht he hs) fun _ _ _ x => tLc_of x
theorem ms_setLc (i : Nat) {y : Str} {py spos : Pos} (hc : X.calm = true) (hN : X.N.Nodup) (hi : PI X tg iter (tI G W it)) (ok : BlkOk X.N X.env.scope scope own)
    (hg : ∀ (s : Shared) (H : Hp) (C : Addr) (cl : List (Str × Addr)) (fp : List Addr), PG (X.blk s H scope (compEnvC scope cl C X.env) fp) tg (tG G (own.map (·.2)) g))
    (ht : ∀ (s : Shared) (H : Hp) (C : Addr) (cl : List (Str × Addr)) (fp : List Addr), PTs (X.blk s H scope (compEnvC scope cl C X.env) fp) ifs (tT G W0 t))
    (he : ∀ (s : Shared) (H : Hp) (C : Addr) (cl : List (Str × Addr)) (fp : List Addr), PE (X.blk s H scope (compEnvC scope cl C X.env) fp) elt (tE G W0 e))
    (hsw : swapsWith (.ListComp elt [⟨tg, iter, ifs, 0⟩] scope pos) (some (.Name y py)) spos.line X.env = pure true) (hy : X.N[i]? = some y := by rfl) (hyl : X.env.scope.names.lookup y = some .local := by rfl) (hs : ∀ x, foldedSetIterable iter X.env x = pure x := by intro _; rfl) :
    PS X (.Assign [.Name y py] (.ListComp elt [⟨tg, iter, ifs, 0⟩] scope pos) spos) (tS G W (msSet i (mLc it g t e (own.map (·.2))))) := PS.imp (ps_setLc hc hN hy hyl hsw hi ok hg ht he hs) fun D σ H ⟨et, env, h, hE, hH, hP⟩ => by
  refine tLc_of ⟨et, env, h, hE, hH, (PstS.of_bind hE hP).imp fun et1 H1 h1 d p e hr q v hv => q et1 H1 _ List.prefix_rfl (Ext.refl _) hr ((hE.mono p e).set i hv)⟩
end

/-! ### isinstance -/
def isT (T : String) (h : IH) : D → Option Bool
  | .non => kitB "NoneType" T
  | .bl _ => kitB "bool" T
  | .int _ => kitB "int" T
  | .str _ => kitB "str" T
  | .tup _ => kitB "tuple" T
  | .fl _ => kitB "list" T
  | .fd _ _ => kitB "dict" T
  | .ref n => match h[n]? with
    | some (.lst _) => kitB "list" T
    | some (.frz _) => kitB "list" T
    | some (.dk _) => kitB "dict" T
    | _ => none
  | _ => none
def mIs (T : String) (m : ME) : ME := fun env h => (m env h).bind fun x h1 => match isT T h1 x with
  | some b => .ok (.bl b) h1
  | none => .no
section
variable {X : Cx} {G : Cf} {W : WX} {a : Expr} {ma : ME} {pos p p2 : Pos} {T : String} {y : Str}
theorem sqT_ty {K : PySem.W.Frag} {H : Hp} {a : Addr} {vs : List V} (h : SqT K H a vs) : TyX K H (.ref a) (.type "tuple") := by
  rcases h with (h | ⟨o, h⟩) | ⟨o, its, n, hk, hc, _⟩
  · exact .base (.tup h)
  · exact .fTuple h
  · exact .kTuple hk hc
theorem frzL_ty {K : PySem.W.Frag} {H : Hp} {a : Addr} {vs : List V} (h : FrzL K H a vs) : TyX K H (.ref a) (.type "list") := by
  rcases h with ⟨o, h⟩ | ⟨o, its, n, hk, hc, _⟩
  · exact .base (.frz h)
  · exact .kList hk hc
theorem isT_ok {et : List Addr} {H : Hp} {h : IH} (R : HRel G et h H) {x : D} {v : V} {b : Bool} (e : isT T h x = some b) (r : Den G et H x v) : ∃ t, TyX G.K H v t ∧ PySem.W.kitOne G.K t (.type T) = some b := by
  cases x with
  | non => rw [den_non.mp r]; exact ⟨_, .base .non, kit_ty e⟩
  | bl _ => rw [den_bl.mp r]; exact ⟨_, .base (.bl _), kit_ty e⟩
  | int _ => rw [den_int.mp r]; exact ⟨_, .base (.int _), kit_ty e⟩
  | str _ => rw [den_str.mp r]; exact ⟨_, .base (.str _), kit_ty e⟩
  | tup l =>
    obtain ⟨a, vs, rfl, h1, _⟩ := den_tup.mp r
    exact ⟨_, sqT_ty (TpT.sq h1), kit_ty e⟩
  | ref n =>
    obtain ⟨a, h1, rfl⟩ := den_ref.mp r
    simp only [isT] at e
    split at e
    · rename_i xs hx
      obtain ⟨vs, h2, _⟩ := R.cell n _ a hx h1
      exact ⟨_, .base (.lst h2), kit_ty e⟩
    · rename_i xs hx
      obtain ⟨vs, h2, _⟩ := R.cell n _ a hx h1
      exact ⟨_, frzL_ty h2, kit_ty e⟩
    · rename_i xs hx
      obtain ⟨vs, h2, _⟩ := R.cell n _ a hx h1
      exact ⟨_, .base (.dK h2), kit_ty e⟩
    · cases e
  | fl l =>
    obtain ⟨a, vs, rfl, h1, _⟩ := den_fl.mp r
    exact ⟨_, frzL_ty (K := G.K) h1.frz, kit_ty e⟩
  | fd ks l =>
    obtain ⟨a, ws, rfl, ⟨o, h1⟩, _⟩ := den_fd.mp r
    exact ⟨_, .fDict h1, kit_ty e⟩
  | exc a => simp [isT] at e
theorem me_is (hK : X.K = G.K) (ha : PE X a (tE G W ma)) (hm : X.mg "isinstance" = none) (hmT : X.mg y = none) (hv : bootBuiltins "isinstance" = some (.builtin "isinstance") := by decide +kernel) (hvT : bootBuiltins y = some (.type T) := by decide +kernel) (hg : Gl X "isinstance" := by rfl) (hgT : Gl X y := by rfl) (hnT : y ≠ "__name__" := by decide) (hdT : (y == ("__debug__" : Str)) = false := by decide)
    (hs1 : starEach [a, .Name y p2] X.env = (false, eval a X.env) :: starEach [.Name y p2] X.env := by rfl) (hs2 : starEach [.Name y p2] X.env = (false, eval (.Name y p2) X.env) :: starEach [] X.env := by rfl) (hpl : (backTo pos (starEach [.Name y p2] X.env)).any (·.1) = false := by rfl) :
    PE X (.Call (.Name "isinstance" p) [a, .Name y p2] [] pos) (tE G W (mIs T ma)) :=
  PE.imp (pe_callB call_isi hg hm hv (pa_cons ha (pa_cons (pe_bltn (v := .ty T) hgT hmT hvT rfl hnT hdT) pa_nil hs2) hs1) (by decide) (by decide) hs1 hpl) fun σ H Q ⟨et, env, h, hE, hH, hP⟩ => by
    refine ⟨et, env, h, hE, hH, (Pst.of_bind hP).imp fun et1 H1 h1 x p e hr q v hv => ?_⟩
    split at q
    · rename_i b hb
      obtain ⟨t, h2, h3⟩ := isT_ok hr hb hv
      rw [hK]
      exact ⟨v, .ty T, t, _, b, rfl, .ty T, h2, h3, q.here hr _ (by simp)⟩
    · exact q.elim
end
/-! ### the law's promise -/
def spLaw (G : Cf) (fm : MF) : Sp := fun vs H Q E => ∃ (a : Addr) (ns : List Int), vs = [.ref a] ∧ ns.length ≤ 63 ∧ Only H ∧ SqL G.K H a (ns.map V.int) ∧ ∀ H', Q (.bl true) H'
theorem FrzL.of_only {K : PySem.W.Frag} {H : Hp} {a : Addr} {vs : List V} (o : Only H) (h : SqL K H a vs) : FrzL K H a vs := by
  rcases h with (h | ⟨ob, h⟩) | h
  · rcases o a with z | ⟨o', xs, z⟩
    · rw [z] at h; cases h
    · rw [z] at h; cases h
  · exact .inl ⟨ob, h⟩
  · exact .inr h
/-- the law's function says True on every script -/
def LawOk (fm : MF) : Prop := ∀ ns : List Int, ns.length ≤ 63 → ∃ h', fm [.ref 0] [.frz (ns.map D.int)] = .ok (.bl true) h'
theorem law_ok {P : Program} {w : World} {K : PySem.W.Frag} {mg : Str → Option Value} {base : Heap} {CX : CXT} {k : Nat} {f : Addr} {fd : FuncData} {ps : List Str} {G : Cf} {fm : MF} (F : FnOk P w K mg base CX k f fd ps (FSp G 1 fm)) (hl : LawOk fm) : FnOk P w K mg base CX k f fd ps (spLaw G fm) :=
  F.imp fun vs H Q E ⟨a, ns, e, l, o, hS, q⟩ => by
    refine ⟨by rw [e]; rfl, [a], [.ref 0], [.frz (ns.map D.int)], ?_, ⟨rfl, ?_, ?_⟩, ?_⟩
    · rw [e]
      exact denL_cons.mpr ⟨_, [], rfl, den_ref.mpr ⟨a, rfl, rfl⟩, by simp⟩
    · intro n m c c' b h1 h2 h3 h4 f1 f2
      have : n = 0 := by
        have := (List.getElem?_eq_some_iff.mp h3).1
        simp at this
        omega
      subst this
      simp at h1
      subst h1
      cases f1
    · intro n c b h1 h2
      have : n = 0 := by
        have := (List.getElem?_eq_some_iff.mp h2).1
        simp at this
        omega
      subst this
      simp at h1 h2
      subst h1 h2
      exact ⟨_, FrzL.of_only o hS, DenL.ofInts⟩
    · obtain ⟨h', e2⟩ := hl ns l
      rw [e2]
      intro et' H' _ _ _ v hv
      rw [den_bl.mp hv]
      exact q H'
end NR

set_option Elab.async false
set_option linter.all false
set_option maxRecDepth 100000
/-! o[i] op= e; callees. -/
namespace NR
open PySem PySem.Spec PyProof.Rows L2
section
variable {X : Cx}
theorem get_list : PGet X (rIxL X.K) := by
  intro pins s σ H x y v u Q I rx ry h
  obtain ⟨p, xs, i, z, rfl, rfl, hq, he, q⟩ := h
  cases rx
  obtain ⟨t, rfl⟩ := ry
  obtain ⟨its, r, pl, hz⟩ := I.list hq
  obtain ⟨j, h1, h2, h3, h4, h5⟩ := atI_get he
  obtain ⟨w, ew, rw'⟩ := r.get h2
  have hl := r.length
  have hn := line63
  have fin : EP X pins σ Q w s := ⟨z, H, I, rw', q⟩
  by_cases h0 : 0 ≤ i
  · have hj : i.toNat = j := by
      rw [seqIndex_of h0 h5] at h1
      exact Option.some.inj h1
    exact wpAny_getItem_list pl.isList h0 (by omega) (by rw [hj]; simpa using ew) fin
  · have hj : (i + (its.toArray.size : Int)).toNat = j := by
      rw [seqIndex_neg (by omega) h4] at h1
      rw [List.size_toArray, ← hl]
      exact Option.some.inj h1
    exact wpAny_getItem_list_neg pl.isList (by omega) (by rw [List.size_toArray] <;> omega) (by omega) (by rw [hj]; simpa using ew) fin
end
/-- a list's item -/
def getL (o i : D) (h : IH) : Option D := match i with
  | .int k => (lstOf h o).bind fun xs => (ixN xs.length k).bind fun j => xs[j]?
  | _ => none
def msAugI (f : D → D → IH → R D) (mo mi me : ME) : MS := fun env h => (mo env h).bindS env fun o h1 => (mi env h1).bindS env fun i h2 => match getL o i h2 with
  | none => .no
  | some x => (me env h2).bindS env fun y h3 => (f x y h3).bindS env fun z h4 => match putD o i z h4 with
    | some h5 => .nx env h5
    | none => .no
section
variable {X : Cx} {G : Cf} {W : WX} {o i e : Expr} {me mo mi : ME} {pos tpos : Pos} {r : R2} {f : D → D → IH → R D} {op : Operator}
theorem getL_ok {et : List Addr} {H : Hp} {h : IH} {x y d : D} {v w : V} {Q : VK} (R : HRel G et h H) (e : getL x y h = some d) (rx : Den G et H x v) (ry : Den G et H y w) (q : ∀ u, Den G et H d u → Q u H) : rIxL G.K v w H Q := by
  unfold getL at e
  split at e
  · rename_i k
    simp only [Option.bind_eq_some_iff] at e
    obtain ⟨xs, e1, e2⟩ := e
    obtain ⟨a, vs, rfl, h1, h2⟩ := lst_ok R e1 rx
    obtain ⟨u, e3, r3⟩ := atI_den h2 (k := k) (by simpa only [Option.bind_eq_some_iff] using e2)
    exact ⟨a, vs, k, u, rfl, den_int.mp ry, h1, e3, q u r3⟩
  · cases e
theorem ms_augI (hK : X.K = G.K) (hop : OpR X (inplaceOp op) r) (hs : OpS G r f) (ho : PE X o (tE G W mo)) (hi : PE X i (tE G W mi)) (he : PE X e (tE G W me))
    (ha : ∀ ov iv new, augStore i ov iv new = (do holding [new, ov, iv] (setItem ov iv new); release [new, ov, iv] []; pure .next) := by intros; rfl) : PS X (.AugAssign (.Subscript o i tpos) op e pos) (tS G W (msAugI f mo mi me)) :=
  PS.imp (ps_augS ho hi get_list he (tip := r) hop set_list ha) fun D σ H ⟨et, env, h, hE, hH, hP⟩ => by
    refine ⟨et, env, h, hE, hH, (PstS.of_bind hE hP).imp fun et1 H1 h1 o p e hr q vo ho => ?_⟩
    have hE1 := hE.mono p e
    refine ⟨et1, env, h1, hE1, hr, (PstS.of_bind hE1 q).imp fun et2 H2 h2 i p2 e2 hr2 q2 vi hi => ?_⟩
    have hE2 := hE1.mono p2 e2
    have ho2 := ho.mono p2 e2
    revert q2
    cases hg : getL o i h2 with
    | none => exact fun q2 => q2.elim
    | some x =>
      intro q2
      dsimp only at q2
      rw [hK]
      refine getL_ok hr2 hg ho2 hi fun vx hx => ?_
      refine ⟨et2, env, h2, hE2, hr2, (PstS.of_bind hE2 q2).imp fun et3 H3 h3 y p3 e3 hr3 q3 vy hy => ?_⟩
      have hE3 := hE2.mono p3 e3
      refine hs et3 H3 h3 x y vx vy _ _ (hx.mono p3 e3) hy hr3 ((PstS.of_bind hE3 q3).imp fun et4 H4 h4 z p4 e4 hr4 q4 vz hz => ?_)
      have hE4 := hE3.mono p4 e4
      revert q4
      cases hp : putD o i z h4 with
      | none => exact fun q4 => q4.elim
      | some h5 =>
        intro q4
        exact put_ok hr4 hp ((ho2.mono p3 e3).mono p4 e4) ((hi.mono p3 e3).mono p4 e4) hz fun H' ex hr5 => q4 et4 H' σ List.prefix_rfl ex hr5 (hE4.mono List.prefix_rfl ex)
end
/-! ### a def by its name -/
structure FnG (P : Program) (w : World) (K : PySem.W.Frag) (mg : Str → Option Value) (base : Heap) (G : Cf) (x : Str) (k n : Nat) (fm : MF) : Prop where
  ex : ∃ f fd ps, FnOk P w K mg base (L2.CX P w) k f fd ps (FSp G n fm) ∧ mg x = some (.ref f) ∧ PySem.W.keepIn K (.ref f) = true ∧ Binds K fd ps []
section
variable {X : Cx} {G : Cf} {W : WX} {k j n : Nat} {fm : MF} {x : Str} {p pos : Pos} {e : Expr} {es : List Expr} {mt : MA}
theorem me_callG (F : FnG X.prog X.w X.K X.mg X.base G x k n fm) (hr : Room j X.A) (hj : k ≤ j) (tk : Takes X W) (ha : PA X (e :: es) (tA G W mt)) (hg : Gl X x := by rfl) (hdb : (x == ("__debug__" : Str)) = false := by decide)
    (he : starEach (e :: es) X.env = (false, eval e X.env) :: starEach es X.env := by rfl) (hpl : (backTo pos (starEach es X.env)).any (·.1) = false := by rfl) : PE X (.Call (.Name x p) (e :: es) [] pos) (tE G W (mCall n fm mt)) := by
  obtain ⟨f, fd, ps, h1, h2, h3, h4⟩ := F.ex
  exact me_call h1 (hr.mono hj) h2 h3 h4 tk ha hg hdb he hpl
theorem me_callG0 (F : FnG X.prog X.w X.K X.mg X.base G x k n fm) (hr : Room j X.A) (hj : k ≤ j) (tk : Takes X W) (hg : Gl X x := by rfl) (hdb : (x == ("__debug__" : Str)) = false := by decide) : PE X (.Call (.Name x p) [] [] pos) (tE G W (mCall n fm mNil)) := by
  obtain ⟨f, fd, ps, h1, h2, h3, h4⟩ := F.ex
  exact me_call0 h1 (hr.mono hj) h2 h3 h4 tk hg hdb
end
/-- what the written part tells of a def -/
structure DefAt (K : PySem.W.Frag) (mg : Str → Option Value) (x : Str) (st : Stmt) (ps : List Str) : Prop where
  ex : ∃ f fd, Fun K x x st f fd ∧ mg x = some (.ref f) ∧ Binds K fd ps []
theorem DefAt.fn {P : Program} {w : World} {K : PySem.W.Frag} {mg : Str → Option Value} {base : Heap} {G : Cf} {x : Str} {st : Stmt} {ps : List Str} {k n : Nat} {fm : MF} (d : DefAt K mg x st ps) (h : ∀ f fd, Fun K x x st f fd → FnOk P w K mg base (L2.CX P w) k f fd ps (FSp G n fm)) : FnG P w K mg base G x k n fm := by
  obtain ⟨f, fd, h1, h2, h3⟩ := d.ex
  exact ⟨f, fd, ps, h f fd h1, h2, h1.kp, h3⟩
end NR

set_option Elab.async false
set_option linter.all false
set_option maxRecDepth 100000
/-! list(x), tuple(x), a, b = e; constants; the end. -/
namespace NR
open PySem PySem.Spec PyProof.Rows L2
section
variable {X : Cx} {G : Cf} {W : WX}
def rListA (K : PySem.W.Frag) : List V → Hp → VK → Prop := fun xs H Q => ∃ p ys, xs = [.ref p] ∧ (SqL K H p ys ∨ SqT K H p ys) ∧ ∀ l, H l = none → Q (.ref l) (upd H l (.lst ys))
def rTupleA (K : PySem.W.Frag) : List V → Hp → VK → Prop := fun xs H Q => ∃ p ys, xs = [.ref p] ∧ ((SqL K H p ys ∧ ∀ l, H l = none → Q (.ref l) (upd H l (.tup ys))) ∨ (SqT K H p ys ∧ Q (.ref p) H))
theorem call_listA : CallR X (.type "list") (rListA X.K) := call_list_of
theorem call_tupleA : CallR X (.type "tuple") (rTupleA X.K) := call_tuple_of
theorem bList_ok : CallS G (rListA G.K) bList := by
  intro et H h xs vs W Q rv R p
  unfold bList at p
  split at p
  · split at p
    · exact p.elim
    · split at p
      · rename_i ys e
        obtain ⟨v, rfl, h1⟩ := list1 rv
        obtain ⟨a, vs, rfl, h2, h3⟩ := seq_ok R e h1
        exact ⟨a, vs, rfl, h2, p.newL R h3⟩
      · exact p.elim
  · exact p.elim
theorem bTuple_ok : CallS G (rTupleA G.K) bTuple := by
  intro et H h xs vs W Q rv R p
  unfold bTuple at p
  split at p
  · split at p
    · exact p.elim
    · obtain ⟨v, rfl, h1⟩ := list1 rv
      obtain ⟨a, vs, rfl, h2, h3⟩ := den_tup.mp h1
      exact ⟨a, vs, rfl, .inr ⟨h2, p.here R _ h1⟩⟩
    · split at p
      · rename_i ys e
        obtain ⟨v, rfl, h1⟩ := list1 rv
        obtain ⟨a, vs, rfl, h2, h3⟩ := lst_ok R e h1
        exact ⟨a, vs, rfl, .inl ⟨h2, p.newT R h3⟩⟩
      · exact p.elim
  · exact p.elim
def msSetT (g : MG) (m : ME) : MS := fun env h => (m env h).bindS env fun d h1 => match g d env with
  | some e => .nx e h1
  | none => .no
theorem ms_setT {es : List Expr} {k : Nat} {e : Expr} {me : ME} {g : MG} {ws : List Nat} {pos pos' : Pos} (he : PE X e (tE G W me)) (hg : PG X (.Tuple es k pos') (tG G ws g)) (hs : swapsWithSole [.Tuple es k pos'] e pos.line X.env = pure false := by rfl) (hw : swappedStores [.Tuple es k pos'] e X.env = pure none := by rfl)
    (h1 : (assignEach [.Tuple es k pos'] X.env).map (·.2) = [assign (.Tuple es k pos') X.env] := by rfl) : PS X (.Assign [.Tuple es k pos'] e pos) (tS G W (msSetT g me)) :=
  PS.imp (ps_asg he hg hs hw h1) fun D σ H ⟨et, env, h, hE, hH, hP⟩ => by
    refine ⟨et, env, h, hE, hH, (PstS.of_bind hE hP).imp fun et1 H1 h1 d p e hr q v hv => ?_⟩
    refine ⟨et1, env, h1, d, hE.mono p e, hr, hv, ?_⟩
    cases hgd : g d env with
    | none => rw [hgd] at q; exact q.elim
    | some e1 =>
      rw [hgd] at q
      exact fun σ' _ hE' => q et1 H1 σ' List.prefix_rfl (Ext.refl _) hr hE'
end
/-- a constant of the top -/
def GlC (mg : Str → Option Value) (x : Str) (d : D) : Prop := ∃ u, OfC d u ∧ mg x = some u
theorem me_globG {X : Cx} {G : Cf} {W : WX} {x : Str} {d : D} {pos : Pos} (g : GlC X.mg x d) (hg : Gl X x := by rfl) (hd : (x == ("__debug__" : Str)) = false := by decide) : PE X (.Name x pos) (tE G W (mC d)) := by
  obtain ⟨u, h1, h2⟩ := g
  exact me_glob d h1 h2 hg hd
theorem glI_of {K : PySem.W.Frag} {h : Heap} {mg : Str → Option Value} {x : Str} {n : Int} {d : D} (X : K.In h) (Gn : h.Ns mainGlobals mg) (g : ∃ t, PySem.W.nsIn K mainGlobals x = some (some (.int n t))) (e : (match d with | .int m => decide (m = n) | _ => false) = true) : GlC mg x d := by
  obtain ⟨t, g⟩ := g
  cases d with
  | int m =>
    have e' : m = n := by simpa using e
    subst e'
    exact ⟨_, ⟨t, rfl⟩, PySem.W.mg_of X Gn g⟩
  | _ => cases e
theorem glS_of {K : PySem.W.Frag} {h : Heap} {mg : Str → Option Value} {x s : Str} {d : D} (X : K.In h) (Gn : h.Ns mainGlobals mg) (g : ∃ t, PySem.W.nsIn K mainGlobals x = some (some (.str s t))) (e : (match d with | .str m => decide (strV m = s) | _ => false) = true) : GlC mg x d := by
  obtain ⟨t, g⟩ := g
  cases d with
  | str m =>
    have e' : strV m = s := by simpa using e
    subst e'
    exact ⟨_, ⟨t, rfl⟩, PySem.W.mg_of X Gn g⟩
  | _ => cases e
theorem cx_no {P : Program} {w : World} {H : Hp} {s : Shared} {e : Value} {s' : Shared} (hx : L2.CX P w [] H s (fun _ _ _ => False) e s') : False := by
  obtain ⟨_, _, _, _, _, _, _, _, _, _, _, _, z⟩ := hx
  exact z
end NR

set_option Elab.async false
set_option linter.all false
set_option maxRecDepth 100000
/-! Texts: list(s), tuple(s), count, find, index of one sign; displays of dicts. -/
namespace NR
open PySem PySem.Spec PyProof.Rows L2
theorem vals_of_get : ∀ {xs : List V} {us : List Value}, xs.length = us.length → (∀ (i : Nat) (x : V) (u : Value), xs[i]? = some x → us[i]? = some u → RelV x u) → Vals xs us
  | [], [], _, _ => .nil
  | [], _ :: _, h, _ => by simp at h
  | _ :: _, [], h, _ => by simp at h
  | x :: xs, u :: us, h, k => .cons (k 0 x u rfl rfl) (vals_of_get (by simpa using h) fun i a b h1 h2 => k (i + 1) a b (by simpa using h1) (by simpa using h2))
def sgD (s : List Nat) : List D := s.map fun c => .str [c]
def sgV (s : List Nat) : List V := s.map fun c => .str (strV [c])
theorem sg_den {G : Cf} {et : List Addr} {H : Hp} : ∀ {s : List Nat}, DenL G et H (sgD s) (sgV s)
  | [] => by simp [sgD, sgV]
  | c :: s => denL_cons.mpr ⟨_, _, rfl, by simp [strV], sg_den⟩
theorem sg_vals {s : List Nat} {acc : Array Value} (h : ItemsOf (SignAt (strV s)) acc (strV s).cps.size) : Vals (sgV s) acc.toList := by
  obtain ⟨h1, h2⟩ := h
  refine vals_of_get ?_ fun i x u hx hu => ?_
  · simp [sgV, strV] at h1 ⊢
    exact h1.symm
  · obtain ⟨c, t, h3, h4⟩ := h2 i u (by simpa using hu)
    subst h4
    have h5 : s[i]? = some c := by simpa [strV] using h3
    unfold sgV at hx
    rw [List.getElem?_map, h5] at hx
    cases hx
    exact ⟨t, rfl⟩
section
variable {X : Cx} {G : Cf} {W : WX}
def rListS : List V → Hp → VK → Prop := fun xs H Q => ∃ z : List Nat, xs = [.str (strV z)] ∧ z.length ≤ 10000000 ∧ ∀ l, H l = none → Q (.ref l) (upd H l (.lst (sgV z)))
def rTupS : List V → Hp → VK → Prop := fun xs H Q => ∃ z : List Nat, xs = [.str (strV z)] ∧ z.length ≤ 10000000 ∧ ∀ l, H l = none → Q (.ref l) (upd H l (.tup (sgV z)))
theorem call_listS (hc : X.calm = true) : CallR X (.type "list") rListS := by
  intro pins s σ H xs us Q I r h
  obtain ⟨z, rfl, hz, q⟩ := h
  obtain ⟨u, rfl, t, rfl⟩ := vals1 r
  refine call_list_str (I.ok.hd hc) (strV z) t (fun h' tk acc c' hk hD hacc => ?_) (by show (strV z).length ≤ _; rw [strV_length]; exact sz hz)
  refine ⟨.ref s.heap.objs.size, upd H s.heap.objs.size (.lst (sgV z)), I.laid (t' := tk) hk (Nat.le_refl _)
    (show ObjOk X.prog X.w _ _ _ (.lst (sgV z)) from ⟨by simp only [sgV, List.length_map]; exact sz hz, acc.toList, c', sg_vals hacc, by rw [Array.toArray_toList]; exact hD⟩), rfl, q _ (I.hok.fresh (Nat.le_refl _))⟩
theorem call_tupS (hc : X.calm = true) : CallR X (.type "tuple") rTupS := by
  intro pins s σ H xs us Q I r h
  obtain ⟨z, rfl, hz, q⟩ := h
  obtain ⟨u, rfl, t, rfl⟩ := vals1 r
  refine call_tuple_str (I.ok.hd hc) (strV z) t (fun h' tk acc hk hacc => ?_) (by show (strV z).length ≤ _; rw [strV_length]; exact sz hz)
  have I1 : Inv X pins σ H { s with heap := h', toks := tk } := I.kept (t' := tk) hk
  refine ⟨.ref h'.objs.size, upd H h'.objs.size (.tup (sgV z)), I1.laid (t' := tk) (fun b o e => Heap.get?_push_of_some _ e) (Nat.le_refl _)
    (show ObjOk X.prog X.w _ _ _ (.tup (sgV z)) from ⟨by simp only [sgV, List.length_map]; exact sz hz, acc.toList, sg_vals hacc, ?_⟩), rfl, q _ (I1.hok.fresh (Nat.le_refl _))⟩
  have := IsTup.new h' acc.toList.toArray
  simpa using this
def bListX : List D → IH → R D
  | [.str s], h => if s.length ≤ 10000000 then .ok (.ref h.length) (h ++ [.lst (sgD s)]) else .no
  | xs, h => bList xs h
def bTupleX : List D → IH → R D
  | [.str s], h => if s.length ≤ 10000000 then .ok (.tup (sgD s)) h else .no
  | xs, h => bTuple xs h
def rListX (K : PySem.W.Frag) : List V → Hp → VK → Prop := fun xs H Q => rListA K xs H Q ∨ rListS xs H Q
def rTupleX (K : PySem.W.Frag) : List V → Hp → VK → Prop := fun xs H Q => rTupleA K xs H Q ∨ rTupS xs H Q
theorem call_listX (hc : X.calm = true) : CallR X (.type "list") (rListX X.K) := CallR.or call_listA (call_listS hc)
theorem call_tupleX (hc : X.calm = true) : CallR X (.type "tuple") (rTupleX X.K) := CallR.or call_tupleA (call_tupS hc)
theorem bListX_ok : CallS G (rListX G.K) bListX := by
  intro et H h xs vs W Q rv R p
  unfold bListX at p
  split at p
  · rename_i s
    obtain ⟨v, rfl, r⟩ := list1 rv
    split at p
    · rename_i l
      exact .inr ⟨s, by rw [den_str.mp r], l, p.newL R sg_den⟩
    · exact p.elim
  · exact .inl (bList_ok et H h xs vs W Q rv R p)
theorem bTupleX_ok : CallS G (rTupleX G.K) bTupleX := by
  intro et H h xs vs W Q rv R p
  unfold bTupleX at p
  split at p
  · rename_i s
    obtain ⟨v, rfl, r⟩ := list1 rv
    split at p
    · rename_i l
      exact .inr ⟨s, by rw [den_str.mp r], l, p.newT R sg_den⟩
    · exact p.elim
  · exact .inl (bTuple_ok et H h xs vs W Q rv R p)
end

/-! ### places of a sign -/
def fnd (c : Nat) : List Nat → Option Nat
  | [] => none
  | d :: s => if d = c then some 0 else (fnd c s).map (· + 1)
theorem fnd_none {c : Nat} : ∀ {s : List Nat}, fnd c s = none ↔ c ∉ s
  | [] => by simp [fnd]
  | d :: s => by
    unfold fnd
    by_cases e : d = c
    · simp [e]
    · rw [if_neg e]
      simp [fnd_none (s := s), Ne.symm e]
theorem fnd_some {c : Nat} : ∀ {s : List Nat} {i : Nat}, fnd c s = some i ↔ s[i]? = some c ∧ ∀ k, k < i → s[k]? ≠ some c
  | [], i => by simp [fnd]
  | d :: s, i => by
    unfold fnd
    by_cases e : d = c
    · rw [if_pos e]
      subst e
      constructor
      · intro h
        cases h
        exact ⟨rfl, fun k hk => absurd hk (Nat.not_lt_zero k)⟩
      · rintro ⟨h1, h2⟩
        cases i with
        | zero => rfl
        | succ i => exact absurd rfl (h2 0 (Nat.succ_pos i))
    · rw [if_neg e]
      cases i with
      | zero =>
        simp only [List.getElem?_cons_zero, Option.some.injEq, e, false_and, iff_false]
        cases fnd c s <;> simp
      | succ i =>
        rw [show (Option.map (· + 1) (fnd c s) = some (i + 1)) ↔ fnd c s = some i by cases fnd c s <;> simp, fnd_some (s := s)]
        constructor
        · rintro ⟨h1, h2⟩
          refine ⟨by simpa using h1, fun k hk => ?_⟩
          cases k with
          | zero => simpa using e
          | succ k => simpa using h2 k (by omega)
        · rintro ⟨h1, h2⟩
          exact ⟨by simpa using h1, fun k hk => by simpa using h2 (k + 1) (by omega)⟩
open Builtin.Str StrLaws in
theorem occ_fnd (s : List Nat) (c : Nat) : (match fnd c s with | some i => ∃ r, occurrences (strV s) (strV [c]) 0 (strV s).length 1 = i :: r | none => occurrences (strV s) (strV [c]) 0 (strV s).length 1 = []) := by
  have at_ : ∀ i, At (strV s) (strV [c]) (strV s).length i ↔ s[i]? = some c := fun i => by
    have := subAt_one (strV s) c i
    simpa [strV, At] using this
  rcases occ_head (strV s) (strV [c]) 1 (Nat.le_refl 1) with ⟨h1, h2⟩ | ⟨i, r, h1, h2, h3⟩
  · have : fnd c s = none := fnd_none.mpr fun hm => by
      obtain ⟨i, hi⟩ := List.mem_iff_getElem?.mp hm
      exact h2 i ((at_ i).mpr hi)
    rw [this]
    exact h1
  · have : fnd c s = some i := fnd_some.mpr ⟨(at_ i).mp h2, fun k hk e => h3 k hk ((at_ k).mpr e)⟩
    rw [this]
    exact ⟨r, h1⟩
open Builtin.Str StrLaws in
theorem occ_go (s : List Nat) (c limit : Nat) : ∀ (l : List Nat) (st : Array Nat × Nat), l.Pairwise (· < ·) → (∀ i ∈ l, st.2 ≤ i) → st.1.size + l.length ≤ limit →
    (forIn l st (occBody (strV s) (strV [c]) (strV s).length limit)).run.fst.toList = st.1.toList ++ l.filter (fun i => decide (s[i]? = some c))
  | [], st, _, _, _ => by simp
  | a :: l, st, hp, hf, hl => by
    have hp' := List.pairwise_cons.mp hp
    have ha : st.2 ≤ a := hf a List.mem_cons_self
    rw [List.length_cons] at hl
    have at_ : (a + (strV [c]).length ≤ (strV s).length ∧ subAt (strV s) (strV [c]) a = true) ↔ s[a]? = some c := by
      have := subAt_one (strV s) c a
      simpa [strV] using this
    rw [List.forIn_cons]
    unfold occBody
    by_cases hc : s[a]? = some c
    · have c1 : ((st.fst.size < limit ∧ st.snd ≤ a) ∧ a + (strV [c]).length ≤ (strV s).length) ∧ subAt (strV s) (strV [c]) a = true := ⟨⟨⟨by omega, ha⟩, (at_.mpr hc).1⟩, (at_.mpr hc).2⟩
      rw [if_pos c1]
      refine (occ_go s c limit l (st.1.push a, a + (strV [c]).length) hp'.2 (fun i hi => ?_) (by simp; omega)).trans ?_
      · have := hp'.1 i hi
        show a + (strV [c]).length ≤ i
        rw [strV_length]
        exact this
      · rw [List.filter_cons, if_pos (by simpa using hc)]
        simp
    · have c2 : ¬ (((st.fst.size < limit ∧ st.snd ≤ a) ∧ a + (strV [c]).length ≤ (strV s).length) ∧ subAt (strV s) (strV [c]) a = true) := fun z => hc (at_.mp ⟨z.1.2, z.2⟩)
      rw [if_neg c2]
      refine (occ_go s c limit l (st.1, st.2) hp'.2 (fun i hi => hf i (List.mem_cons_of_mem _ hi)) (by show st.1.size + l.length ≤ limit; omega)).trans ?_
      rw [List.filter_cons, if_neg (by simpa using hc)]
theorem filter_range (c : Nat) : ∀ (s : List Nat) (n : Nat), s.length ≤ n → ((List.range n).filter (fun i => decide (s[i]? = some c))).length = s.count c
  | [], n, _ => by simp
  | d :: s, 0, h => by simp at h
  | d :: s, n + 1, h => by
    rw [List.range_succ_eq_map, List.filter_cons, List.filter_map]
    have ih := filter_range c s n (by simpa using h)
    have e : ((fun i => decide ((d :: s)[i]? = some c)) ∘ Nat.succ) = fun i => decide (s[i]? = some c) := by funext i; simp
    rw [e]
    by_cases hd : d = c
    · subst hd
      simp [ih]
    · simp [ih, hd]
theorem count_one (s : List Nat) (c : Nat) : Txt.count (strV s) (strV [c]) = (s.count c : Nat) := by
  unfold Txt.count
  rw [StrLaws.occ_eq]
  have h := occ_go s c ((strV s).length + 1) (List.range' 0 ((strV s).length + 1 - 0)) (#[], 0) (List.pairwise_lt_range') (fun _ _ => Nat.zero_le _) (by simp)
  rw [h]
  have e : List.range' 0 ((strV s).length + 1 - 0) = List.range (s.length + 1) := by rw [strV_length, List.range_eq_range']; rfl
  rw [e]
  show (((([] : List Nat) ++ _).length : Nat) : Int) = _
  rw [List.nil_append, filter_range c s _ (by omega)]
theorem find_one (s : List Nat) (c : Nat) : Txt.find (strV s) (strV [c]) = match fnd c s with | some i => (i : Int) | none => -1 := by
  have := occ_fnd s c
  unfold Txt.find
  revert this
  cases fnd c s with
  | none => intro h; rw [h]
  | some i => rintro ⟨r, h⟩; rw [h]
def fCount : D → List D → IH → R D
  | .str s, [.str [c]], h => .ok (.int (s.count c : Nat)) h
  | _, _, _ => .no
def fFind : D → List D → IH → R D
  | .str s, [.str [c]], h => .ok (.int (match fnd c s with | some i => (i : Int) | none => -1)) h
  | _, _, _ => .no
def fIndex : D → List D → IH → R D
  | .str s, [.str [c]], h => match fnd c s with
    | some i => .ok (.int (i : Nat)) h
    | none => .no
  | _, _, _ => .no
section
variable {X : Cx} {G : Cf} {W : WX}
theorem fCount_ok : MethS G (fun x xs H Q => ∃ a b, x = .str a ∧ xs = [.str b] ∧ Q (.int (Txt.count a b)) H) fCount := by
  intro et H h x v xs vs W Q rx rv R p
  unfold fCount at p
  split at p
  · obtain ⟨w, rfl, r⟩ := list1 rv
    exact ⟨_, _, den_str.mp rx, by rw [den_str.mp r], p.here R _ (by rw [count_one]; simp)⟩
  · exact p.elim
theorem fFind_ok : MethS G (fun x xs H Q => ∃ a b, x = .str a ∧ xs = [.str b] ∧ Q (.int (Txt.find a b)) H) fFind := by
  intro et H h x v xs vs W Q rx rv R p
  unfold fFind at p
  split at p
  · obtain ⟨w, rfl, r⟩ := list1 rv
    exact ⟨_, _, den_str.mp rx, by rw [den_str.mp r], p.here R _ (by rw [find_one]; simp)⟩
  · exact p.elim
theorem fIndex_ok : MethS G (fun x xs H Q => ∃ a b i rest, x = .str a ∧ xs = [.str b] ∧ Builtin.Str.occurrences a b 0 a.length 1 = i :: rest ∧ Q (.int (i : Nat)) H) fIndex := by
  intro et H h x v xs vs W Q rx rv R p
  unfold fIndex at p
  split at p
  · rename_i s c
    obtain ⟨w, rfl, r⟩ := list1 rv
    have o := occ_fnd s c
    revert p o
    cases fnd c s with
    | none => exact fun p => p.elim
    | some i =>
      rintro p ⟨rest, o⟩
      exact ⟨_, _, i, rest, den_str.mp rx, by rw [den_str.mp r], o, p.here R _ (by simp)⟩
  · exact p.elim
end

/-! ### displays of dicts: texts and ints as keys -/
def keyD? : D → Option DKey
  | .int i => some (.inl i)
  | .str s => some (.inr s)
  | _ => none
def putKD {κ : Type} [DecidableEq κ] (kvs : List (κ × D)) (k : κ) (v : D) : List (κ × D) := if (kvs.any fun p => decide (p.1 = k)) = true then kvs.map (fun p => if p.1 = k then (p.1, v) else p) else kvs ++ [(k, v)]
def mPr : List (ME × ME) → EV → IH → R (List (D × D))
  | [], _, h => .ok [] h
  | (k, v) :: r, env, h => (k env h).bind fun x h1 => (v env h1).bind fun y h2 => (mPr r env h2).bind fun ps h3 => .ok ((x, y) :: ps) h3
def keyPs : List (D × D) → Option (List (DKey × D))
  | [] => some []
  | p :: r => match keyD? p.1, keyPs r with
    | some k, some l => some ((k, p.2) :: l)
    | _, _ => none
def dkAt (h : IH) (n : Nat) : Bool := match h[n]? with
  | some (.dk []) => true
  | _ => false
def mDict (ps : List (ME × ME)) : ME := fun env h => (mPr ps env (h ++ [.dk []])).bind fun qs h1 => match keyPs qs with
  | some kvs => if kvs.length ≤ 15 ∧ dkAt h1 h.length = true then .ok (.ref h.length) (h1.set h.length (.dk (kvs.foldl (fun acc p => putKD acc p.1 p.2) []))) else .no
  | none => .no
theorem keyV_inj {a b : DKey} (e : keyV a = keyV b) : a = b := by
  cases a <;> cases b <;> simp [keyV] at e
  · rw [e]
  · rw [strV_inj e]
theorem any_keys {κ κ' : Type} [DecidableEq κ] [DecidableEq κ'] {f : κ → κ'} (inj : ∀ a b, f a = f b → a = b) (k : κ) : ∀ {kvs : List (κ × D)} {ws : List (κ' × V)}, ws.map (·.1) = kvs.map (fun p => f p.1) → (ws.any fun p => decide (p.1 = f k)) = kvs.any fun p => decide (p.1 = k)
  | [], [], _ => rfl
  | [], _ :: _, h => by simp at h
  | _ :: _, [], h => by simp at h
  | p :: kvs, q :: ws, h => by
    simp only [List.map_cons, List.cons.injEq] at h
    rw [List.any_cons, List.any_cons, any_keys inj k h.2, h.1]
    congr 1
    exact decide_eq_decide.mpr ⟨inj _ _, fun e => by rw [e]⟩
theorem denK_set {κ κ' : Type} [DecidableEq κ] [DecidableEq κ'] {f : κ → κ'} (inj : ∀ a b, f a = f b → a = b) {G : Cf} {et : List Addr} {H : Hp} {k : κ} {d : D} {v : V} (r : Den G et H d v) : ∀ {kvs : List (κ × D)} {ws : List (κ' × V)}, DenK f G et H kvs ws →
    DenK f G et H (kvs.map fun p => if p.1 = k then (p.1, d) else p) (ws.map fun p => if p.1 = f k then (p.1, v) else p)
  | [], [], _ => ⟨rfl, by simp⟩
  | [], _ :: _, h => by have := h.1; simp at this
  | _ :: _, [], h => by have := h.1; simp at this
  | p :: kvs, q :: ws, h => by
    obtain ⟨h1, h2⟩ := h
    simp only [List.map_cons, List.cons.injEq] at h1
    simp only [List.map_cons] at h2
    obtain ⟨v0, ws0, e0, h3, h4⟩ := denL_cons.mp h2
    simp only [List.cons.injEq] at e0
    obtain ⟨rfl, rfl⟩ := e0
    obtain ⟨i1, i2⟩ := denK_set inj r (kvs := kvs) (ws := ws) ⟨h1.2, h4⟩
    by_cases e : p.1 = k
    · have e' : q.1 = f k := by rw [h1.1, e]
      refine ⟨?_, ?_⟩
      · simp only [List.map_cons, e, e', if_pos]
        rw [i1]
      · simp only [List.map_cons, if_pos e, if_pos e']
        exact denL_cons.mpr ⟨v, _, rfl, r, i2⟩
    · have e' : ¬ q.1 = f k := fun z => e (inj _ _ (h1.1.symm.trans z))
      refine ⟨?_, ?_⟩
      · simp only [List.map_cons, if_neg e, if_neg e']
        rw [i1, h1.1]
      · simp only [List.map_cons, if_neg e, if_neg e']
        exact denL_cons.mpr ⟨q.2, _, rfl, h3, i2⟩
theorem denK_put {κ κ' : Type} [DecidableEq κ] [DecidableEq κ'] {f : κ → κ'} (inj : ∀ a b, f a = f b → a = b) {G : Cf} {et : List Addr} {H : Hp} {k : κ} {d : D} {v : V} (r : Den G et H d v) {kvs : List (κ × D)} {ws : List (κ' × V)} (h : DenK f G et H kvs ws) :
    DenK f G et H (putKD kvs k d) (putK ws (f k) v) := by
  unfold putKD putK
  rw [any_keys inj k h.1]
  split
  · exact denK_set inj r h
  · exact ⟨by simp [h.1], by
      rw [List.map_append, List.map_append]
      exact DenL.app h.2 (denL_cons.mpr ⟨v, [], rfl, r, by simp⟩)⟩
theorem denK_fold {G : Cf} {et : List Addr} {H : Hp} : ∀ {more : List (DKey × D)} {mw : List (Key × V)} {kvs : List (DKey × D)} {ws : List (Key × V)}, DenK keyV G et H more mw → DenK keyV G et H kvs ws → DenK keyV G et H (more.foldl (fun acc p => putKD acc p.1 p.2) kvs) (mergeK ws mw)
  | [], [], _, _, _, h => h
  | [], _ :: _, _, _, h, _ => by have := h.1; simp at this
  | _ :: _, [], _, _, h, _ => by have := h.1; simp at this
  | p :: more, q :: mw, kvs, ws, h, h0 => by
    obtain ⟨h1, h2⟩ := h
    simp only [List.map_cons, List.cons.injEq] at h1
    simp only [List.map_cons] at h2
    obtain ⟨v0, ws0, e0, h3, h4⟩ := denL_cons.mp h2
    simp only [List.cons.injEq] at e0
    obtain ⟨rfl, rfl⟩ := e0
    show DenK keyV G et H (more.foldl _ (putKD kvs p.1 p.2)) (mergeK (putK ws q.1 q.2) mw)
    refine denK_fold ⟨h1.2, h4⟩ ?_
    rw [h1.1]
    exact denK_put (fun a b => keyV_inj) h3 h0
theorem keyPs_ok {G : Cf} {et : List Addr} {H : Hp} : ∀ {ps : List (D × D)} {kvs : List (DKey × D)} {vs : List (V × V)}, keyPs ps = some kvs → DenL G et H (ps.map (·.1)) (vs.map (·.1)) → DenL G et H (ps.map (·.2)) (vs.map (·.2)) → ∃ ws : List (Key × V), vs = ws.map (fun kv => (kV kv.1, kv.2)) ∧ DenK keyV G et H kvs ws
  | [], kvs, [], e, _, _ => by
    simp only [keyPs, Option.some.injEq] at e
    subst e
    exact ⟨[], rfl, rfl, by simp⟩
  | [], _, _ :: _, _, h, _ => by
    have := h.len
    simp at this
  | _ :: _, _, [], _, h, _ => by
    have := h.len
    simp at this
  | p :: ps, kvs, q :: vs, e, h1, h2 => by
    unfold keyPs at e
    split at e
    · rename_i k l e1 e2
      cases e
      simp only [List.map_cons] at h1 h2
      obtain ⟨v0, w0, z0, a1, a2⟩ := denL_cons.mp h1
      simp only [List.cons.injEq] at z0
      obtain ⟨rfl, rfl⟩ := z0
      obtain ⟨v0, w0, z0, b1, b2⟩ := denL_cons.mp h2
      simp only [List.cons.injEq] at z0
      obtain ⟨rfl, rfl⟩ := z0
      obtain ⟨ws, rfl, c1, c2⟩ := keyPs_ok e2 a2 b2
      refine ⟨(keyV k, q.2) :: ws, ?_, ?_, ?_⟩
      · have : q.1 = kV (keyV k) := by
          unfold keyD? at e1
          split at e1
          · rename_i i he; cases e1; rw [he] at a1; exact den_int.mp a1
          · rename_i i he; cases e1; rw [he] at a1; exact den_str.mp a1
          · cases e1
        obtain ⟨q1, q2⟩ := q
        simp only at this
        subst this
        rfl
      · simp [c1]
      · exact denL_cons.mpr ⟨q.2, _, rfl, b1, c2⟩
    · cases e
section
variable {X : Cx} {G : Cf} {W : WX} {pos : Pos}
/-- the pairs of a display -/
structure Prs (X : Cx) (G : Cf) (W : WX) (pos : Pos) (keys : List (Option Expr)) (values : List Expr) (ps : List (ME × ME)) : Prop where
  pp : PPs X pos keys values (ps.map fun p => (tE G W p.1, tE G W p.2))
theorem prs_nil : Prs X G W pos [] [] [] := ⟨pps_nil⟩
theorem prs_cons {k v : Expr} {ks : List (Option Expr)} {vs : List Expr} {mk mv : ME} {ps : List (ME × ME)} (hk : PE X k (tE G W mk)) (hv : PE X v (tE G W mv)) (h : Prs X G W pos ks vs ps) : Prs X G W pos (some k :: ks) (v :: vs) ((mk, mv) :: ps) := ⟨pps_cons hk hv h.pp⟩
theorem tPairs_of {σ : L2.St} : ∀ {ps : List (ME × ME)} {H : Hp} {Q : List (V × V) → Hp → Prop} {et : List Addr} {env : EV} {h : IH}, EnvR G et H env σ → HRel G et h H →
    Pst G et H (mPr ps env h) (fun et' H' h' qs => HRel G et' h' H' → ∀ vs : List (V × V), DenL G et' H' (qs.map (·.1)) (vs.map (·.1)) → DenL G et' H' (qs.map (·.2)) (vs.map (·.2)) → Q vs H') (fun c d H' => W c d σ H') →
    tPairs (ps.map fun p => (tE G W p.1, tE G W p.2)) σ H Q
  | [], H, Q, et, env, h, hE, hH, hP => hP et H List.prefix_rfl (Ext.refl H) hH hH [] (by simp) (by simp)
  | (k, v) :: ps, H, Q, et, env, h, hE, hH, hP => by
    refine ⟨et, env, h, hE, hH, (Pst.of_bind hP).imp fun et1 H1 h1 x p1 e1 hr1 q1 vx hx => ?_⟩
    have hE1 := hE.mono p1 e1
    refine ⟨et1, env, h1, hE1, hr1, (Pst.of_bind q1).imp fun et2 H2 h2 y p2 e2 hr2 q2 vy hy => ?_⟩
    have hE2 := hE1.mono p2 e2
    refine tPairs_of hE2 hr2 ((Pst.of_bind q2).imp fun et3 H3 h3 qs p3 e3 hr3 q3 _ vs a1 a2 => ?_)
    exact q3 et3 H3 List.prefix_rfl (Ext.refl _) hr3 hr3 ((vx, vy) :: vs) (denL_cons.mpr ⟨vx, _, rfl, (hx.mono p2 e2).mono p3 e3, a1⟩) (denL_cons.mpr ⟨vy, _, rfl, hy.mono p3 e3, a2⟩)
theorem me_dict {keys : List (Option Expr)} {values : List Expr} {ps : List (ME × ME)} (h : Prs X G W pos keys values ps) (hall : keys.all (·.isSome) = true := by rfl) (hl : keys.length = values.length := by rfl) (h0 : keys ≠ [] := by exact fun z => nomatch z) (h15 : keys.length ≤ 15 := by decide) :
    PE X (.Dict keys values pos) (tE G W (mDict ps)) := PE.imp (pe_disp h.pp hall hl h0 h15) fun σ H Q ⟨et, env, h, hE, hH, hP⟩ p hp => by
  have hH1 : HRel G (et ++ [p]) (h ++ [.dk []]) (upd H p (.dK [])) := hH.push hp ⟨[], upd_same, rfl, by simp⟩
  have pf : et <+: et ++ [p] := List.prefix_append _ _
  refine tPairs_of (hE.mono pf (Ext.new hp)) hH1 ((Pst.of_bind (Pst.weak pf (Ext.new hp) hP)).imp fun et2 H2 h2 qs p2 e2 hr2 q2 => ?_)
  split at q2
  · rename_i kvs ek
    split at q2
    · rename_i c
      intro _ vs a1 a2
      obtain ⟨ws, rfl, k1⟩ := keyPs_ok ek a1 a2
      have hp2 : et2[h.length]? = some p := by
        obtain ⟨t, rfl⟩ := p2
        rw [List.getElem?_append_left (by simp [hH.len]), ← hH.len]
        simp
      have hc := c.2
      unfold dkAt at hc
      split at hc
      · rename_i hcell
        obtain ⟨w0, c1, c2, c3⟩ := hr2.cell _ _ p hcell hp2
        have w00 : w0 = [] := by simpa using c2
        subst w00
        have hl : ws.length = kvs.length := by have := congrArg List.length k1.1; simpa using this
        refine ⟨c1, ws, rfl, by rw [hl]; exact c.1, ?_⟩
        have hcl : CellOk G et2 (upd H2 p (.dK (mergeK [] ws))) p (.dk (kvs.foldl (fun acc p => putKD acc p.1 p.2) [])) :=
          ⟨_, upd_same, (denK_fold k1 (kvs := []) (ws := []) ⟨rfl, by simp⟩).mono List.prefix_rfl (Ext.mut c1 trivial)⟩
        exact q2 et2 _ List.prefix_rfl (Ext.mut c1 trivial) (hr2.set hcell hp2 rfl c1 trivial hcl) _ (den_ref.mpr ⟨p, hp2, rfl⟩)
      · cases hc
    · exact q2.elim
  · exact q2.elim
theorem me_dict0 : PE X (.Dict [] [] pos) (tE G W (mDict [])) := PE.imp pe_dnewK fun σ H Q ⟨et, env, h, hE, hH, hP⟩ p hp => by
  have hH1 : HRel G (et ++ [p]) (h ++ [.dk []]) (upd H p (.dK [])) := hH.push hp ⟨[], upd_same, rfl, by simp⟩
  have e : mDict [] env h = .ok (.ref h.length) (h ++ [.dk []]) := by
    simp [mDict, mPr, R.bind, keyPs, dkAt]
  rw [e] at hP
  refine hP (et ++ [p]) _ (List.prefix_append _ _) (Ext.new hp) hH1 _ (den_ref.mpr ⟨p, ?_, rfl⟩)
  rw [← hH.len]
  simp
end
end NR

set_option Elab.async false
set_option linter.all false
set_option maxRecDepth 100000
/-! Lists and dicts that are locked: values from then on. -/
namespace NR
open PySem PySem.Spec PyProof.Rows L2
open Classical in
/-- what an expression made anew is locked -/
noncomputable def fzR (h : IH) (r : R D) : R D := match r with
  | .ok (.ref n) h' => match h'[n]? with
    | some (.lst xs) => if h.length ≤ n ∧ D.loL h.length xs = true ∧ okB h.length h h' then .ok (.fl xs) (h'.take h.length) else .ok (.ref n) h'
    | some (.dk kvs) => if h.length ≤ n ∧ D.loL h.length (kvs.map (·.2)) = true ∧ okB h.length h h' then .ok (.fd (kvs.map (·.1)) (kvs.map (·.2))) (h'.take h.length) else .ok (.ref n) h'
    | _ => .ok (.ref n) h'
  | r => r
noncomputable def mFz (m : ME) : ME := fun env h => fzR h (m env h)
/-- a variable's list is locked ahead of a statement -/
def msFz (i : Nat) (b : MS) : MS := fun env h => match env[i]? with
  | some (some (.ref n)) => match h[n]? with
    | some (.lst xs) => b (env.set i (some (.fl xs))) (h.set n (.frz xs))
    | _ => b env h
  | _ => b env h
section
variable {G : Cf} {et et' : List Addr} {H H' : Hp} {h h' : IH}
theorem HRel.lock (R : HRel G et h H) {a : Addr} {o u : HO} (ho : H a = some o) (mu : Mut (some o)) (nin : ∀ (n : Nat) (c : Cell), h[n]? = some c → et[n]? = some a → c.isFrz = true) : HRel G et h (upd H a u) := by
  have ex : Ext H (upd H a u) := Ext.mut ho mu
  refine ⟨R.len, R.nd, fun n c b h1 h2 => ?_⟩
  have old := R.cell n c b h1 h2
  by_cases nb : b = a
  · subst nb
    have hf := nin n c h1 h2
    cases c with
    | frz xs =>
      obtain ⟨vs, h5, h6⟩ := old
      exact ⟨vs, h5.ext ex, h6.mono List.prefix_rfl ex⟩
    | _ => cases hf
  · exact old.mono List.prefix_rfl ex fun w e => by rw [upd_ne nb]; exact e
/-- a new cell is locked and forgotten -/
theorem HRel.lockNew {R0 : HRel G et h H} (R : HRel G et' h' H') (p : et <+: et') {n : Nat} {a : Addr} {c : Cell} {o u : HO} (hn : h'[n]? = some c) (ha : et'[n]? = some a) (f : c.isFrz = false) (ho : H' a = some o) (mu : Mut (some o)) (ln : h.length ≤ n)
    (ok : okB h.length h h') : HRel G et (h'.take h.length) (upd H' a u) := by
  have al := okB_all R0 ok
  have R1 := R.cut p al
  rw [R0.len] at R1
  refine R1.lock ho mu fun m c' h1 h2 => ?_
  have hm : m < h.length := by
    have := (List.getElem?_eq_some_iff.mp h1).1
    rw [List.length_take] at this
    omega
  rw [List.getElem?_take_of_lt hm] at h1
  obtain ⟨t, rfl⟩ := p
  have h3 : (et ++ t)[m]? = some a := by
    rw [List.getElem?_append_left (by rw [R0.len]; exact hm)]
    exact h2
  cases hf : c'.isFrz with
  | true => rfl
  | false =>
    have := R.nd m n c' c a h1 hn h3 ha hf f
    omega
end
section
variable {X : Cx} {G : Cf} {W : WX} {e : Expr} {m : ME} {st : Stmt} {b : MS}
theorem me_fz (he : PE X e (tE G W m)) : PE X e (tE G W (mFz m)) := ⟨fun pins s σ H Q I ⟨et, env, h, hE, hH, hP⟩ => by
  have main : Pst G et H (m env h) (fun et' H' _ d => ∀ v, Den G et' H' d v → Q v H' ∨ ∃ a u, H' a = some u ∧ Mut (some u) ∧ ∀ od, Q v (upd H' a (.frz od u))) (fun c d H' => W c d σ H') := by
    have hP : Pst G et H (fzR h (m env h)) _ _ := hP
    revert hP
    cases m env h with
    | no => exact fun z => z
    | ex c d h' => exact fun z => z
    | ok d h' =>
      intro hP
      have dull : Pst G et H (.ok d h') (fun et' H' _ d => ∀ v, Den G et' H' d v → Q v H') (fun c d H' => W c d σ H') → Pst G et H (.ok d h') (fun et' H' _ d => ∀ v, Den G et' H' d v → Q v H' ∨ ∃ a u, H' a = some u ∧ Mut (some u) ∧ ∀ od, Q v (upd H' a (.frz od u))) (fun c d H' => W c d σ H') := fun z => z.imp fun et1 H1 h1 a p e hr q v hv => .inl (q v hv)
      unfold fzR at hP
      split at hP
      · rename_i n h2 heq
        cases heq
        split at hP
        · rename_i xs hx
          split at hP
          · rename_i c
            intro et' H' p e hr v hv
            obtain ⟨a, ha, rfl⟩ := den_ref.mp hv
            obtain ⟨vs, k1, k2⟩ := hr.cell n _ a hx ha
            refine .inr ⟨a, .lst vs, k1, True.intro, fun od => ?_⟩
            have hr2 : HRel G et (h'.take h.length) (upd H' a (.frz od (.lst vs))) := HRel.lockNew (R0 := hH) hr p hx ha rfl k1 True.intro c.1 c.2.2
            have ex : Ext H' (upd H' a (.frz od (.lst vs))) := Ext.mut k1 True.intro
            have lo := c.2.1
            rw [← hH.len] at lo
            exact hP et _ List.prefix_rfl (e.trans ex) hr2 _ (den_fl.mpr ⟨a, vs, rfl, ⟨od, upd_same⟩, (k2.back p lo).mono List.prefix_rfl ex⟩)
          · exact dull hP
        · rename_i xs hx
          split at hP
          · rename_i c
            intro et' H' p e hr v hv
            obtain ⟨a, ha, rfl⟩ := den_ref.mp hv
            obtain ⟨ws, k1, k2, k3⟩ := hr.cell n _ a hx ha
            refine .inr ⟨a, .dK ws, k1, True.intro, fun od => ?_⟩
            have hr2 : HRel G et (h'.take h.length) (upd H' a (.frz od (.dK ws))) := HRel.lockNew (R0 := hH) hr p hx ha rfl k1 True.intro c.1 c.2.2
            have ex : Ext H' (upd H' a (.frz od (.dK ws))) := Ext.mut k1 True.intro
            have lo := c.2.1
            rw [← hH.len] at lo
            exact hP et _ List.prefix_rfl (e.trans ex) hr2 _ (den_fd.mpr ⟨a, ws, rfl, ⟨od, upd_same⟩, by rw [k2, List.map_map]; rfl, (k3.back p lo).mono List.prefix_rfl ex⟩)
          · exact dull hP
        · exact dull hP
      · exact dull hP
  refine thn (he.run pins s σ H _ I ⟨et, env, h, hE, hH, main⟩) fun v s1 ⟨x, H1, I1, r, q⟩ => ?_
  rcases q with q | ⟨a, u, k1, mu, q⟩
  · exact ⟨x, H1, I1, r, q⟩
  · obtain ⟨od, I2⟩ := I1.lock k1 mu
    exact ⟨x, _, I2, r, q od⟩⟩
theorem ms_fz (i : Nat) (hs : PS X st (tS G W b)) : PS X st (tS G W (msFz i b)) := ⟨fun pins s σ H D I ⟨et, env, h, hE, hH, hP⟩ => by
  unfold msFz at hP
  split at hP
  · rename_i n he
    split at hP
    · rename_i xs hx
      obtain ⟨v, e1, r⟩ := hE.2 i _ he
      obtain ⟨a, ha, rfl⟩ := den_ref.mp r
      obtain ⟨vs, k1, k2⟩ := hH.cell n _ a hx ha
      obtain ⟨od, I1⟩ := I.lock k1 True.intro
      have ex : Ext H (upd H a (.frz od (.lst vs))) := Ext.mut k1 True.intro
      have hf : DenL G et (upd H a (.frz od (.lst vs))) xs vs := k2.mono List.prefix_rfl ex
      have hE1 := (hE.mono (et' := et) List.prefix_rfl ex).set i (den_fl.mpr ⟨a, vs, rfl, ⟨od, upd_same⟩, hf⟩)
      have es : σ.set i (some (.ref a)) = σ := by
        apply List.ext_getElem?
        intro j
        by_cases hj : i = j
        · subst hj
          rw [List.getElem?_set_self (List.getElem?_eq_some_iff.mp e1).1, e1]
        · rw [List.getElem?_set_ne hj]
      rw [es] at hE1
      have hc : CellOk G et (upd H a (.frz od (.lst vs))) a (.frz xs) := ⟨vs, .inl ⟨od, upd_same⟩, hf⟩
      exact hs.run pins s σ _ D I1 ⟨et, _, _, hE1, hH.set hx ha rfl k1 True.intro hc, hP.weak List.prefix_rfl ex⟩
    · exact hs.run pins s σ H D I ⟨et, env, h, hE, hH, hP⟩
  · exact hs.run pins s σ H D I ⟨et, env, h, hE, hH, hP⟩⟩
theorem ms_setF {i : Nat} (hs : PS X st (tS G W (msSet i m))) : PS X st (tS G W (msSet i (mFz m))) := ⟨fun pins s σ H D I ⟨et, env, h, hE, hH, hP⟩ => by
  have main : PstS G et H (msSet i m env h) { D with nx := fun σ' H' => D.nx σ' H' ∨ ∃ a u, H' a = some u ∧ Mut (some u) ∧ ∀ od, D.nx σ' (upd H' a (.frz od u)) } W := by
    have hP : PstS G et H ((fzR h (m env h)).bindS env fun d h1 => .nx (env.set i (some d)) h1) D W := hP
    show PstS G et H ((m env h).bindS env fun d h1 => .nx (env.set i (some d)) h1) _ W
    revert hP
    cases m env h with
    | no => exact fun z => z
    | ex c d h' => exact fun z => z
    | ok d h' =>
      intro hP
      have dull : PstS G et H (.nx (env.set i (some d)) h') D W → PstS G et H (.nx (env.set i (some d)) h') { D with nx := fun σ' H' => D.nx σ' H' ∨ ∃ a u, H' a = some u ∧ Mut (some u) ∧ ∀ od, D.nx σ' (upd H' a (.frz od u)) } W := fun z et1 H1 σ1 p e r E => .inl (z et1 H1 σ1 p e r E)
      have slots : ∀ {n : Nat} {et' : List Addr} {H' : Hp} {σ' : L2.St} {a : Addr} {d' : NR.D} {H2 : Hp}, EnvR G et' H' (env.set i (some (.ref n))) σ' → et <+: et' → et'[n]? = some a → Ext H' H2 → Den G et H2 d' (.ref a) → EnvR G et H2 (env.set i (some d')) σ' := fun {n et' H' σ' a d' H2} E p ha ex r => by
        refine ⟨by have := E.1; simpa using this, fun j d'' q => ?_⟩
        by_cases hj : i = j
        · subst hj
          by_cases hl : i < env.length
          · rw [List.getElem?_set_self hl] at q
            cases q
            obtain ⟨v, e1, r1⟩ := E.2 i (.ref n) (by rw [List.getElem?_set_self hl])
            obtain ⟨b, hb, rfl⟩ := den_ref.mp r1
            rw [ha] at hb
            cases hb
            exact ⟨_, e1, r⟩
          · rw [List.getElem?_eq_none (by simp; omega)] at q
            cases q
        · rw [List.getElem?_set_ne hj] at q
          obtain ⟨v0, _, r0⟩ := hE.2 j d'' q
          obtain ⟨v, e1, r1⟩ := E.2 j d'' (by rw [List.getElem?_set_ne hj]; exact q)
          exact ⟨v, e1, (r1.back p r0.lo).mono List.prefix_rfl ex⟩
      unfold fzR at hP
      split at hP
      · rename_i n h2 heq
        cases heq
        split at hP
        · rename_i xs hx
          split at hP
          · rename_i c
            intro et' H' σ' p e hr E
            obtain ⟨a, ha⟩ := hr.addr hx
            obtain ⟨vs, k1, k2⟩ := hr.cell n _ a hx ha
            refine .inr ⟨a, .lst vs, k1, True.intro, fun od => ?_⟩
            have hr2 : HRel G et (h'.take h.length) (upd H' a (.frz od (.lst vs))) := HRel.lockNew (R0 := hH) hr p hx ha rfl k1 True.intro c.1 c.2.2
            have ex : Ext H' (upd H' a (.frz od (.lst vs))) := Ext.mut k1 True.intro
            have lo := c.2.1
            rw [← hH.len] at lo
            exact hP et _ σ' List.prefix_rfl (e.trans ex) hr2 (slots E p ha ex (den_fl.mpr ⟨a, vs, rfl, ⟨od, upd_same⟩, (k2.back p lo).mono List.prefix_rfl ex⟩))
          · exact dull hP
        · rename_i xs hx
          split at hP
          · rename_i c
            intro et' H' σ' p e hr E
            obtain ⟨a, ha⟩ := hr.addr hx
            obtain ⟨ws, k1, k2, k3⟩ := hr.cell n _ a hx ha
            refine .inr ⟨a, .dK ws, k1, True.intro, fun od => ?_⟩
            have hr2 : HRel G et (h'.take h.length) (upd H' a (.frz od (.dK ws))) := HRel.lockNew (R0 := hH) hr p hx ha rfl k1 True.intro c.1 c.2.2
            have ex : Ext H' (upd H' a (.frz od (.dK ws))) := Ext.mut k1 True.intro
            have lo := c.2.1
            rw [← hH.len] at lo
            exact hP et _ σ' List.prefix_rfl (e.trans ex) hr2 (slots E p ha ex (den_fd.mpr ⟨a, ws, rfl, ⟨od, upd_same⟩, by rw [k2, List.map_map]; rfl, (k3.back p lo).mono List.prefix_rfl ex⟩))
          · exact dull hP
        · exact dull hP
      · exact dull hP
  refine thn (hs.run pins s σ H _ I ⟨et, env, h, hE, hH, main⟩) fun f s1 q => ?_
  cases f with
  | next =>
    obtain ⟨σ', H', I2, q⟩ := q
    rcases q with q | ⟨a, u, k1, mu, q⟩
    · exact ⟨σ', H', I2, q⟩
    · obtain ⟨od, I3⟩ := I2.lock k1 mu
      exact ⟨σ', _, I3, q od⟩
  | brk => exact q
  | cont => exact q
  | ret v => exact q⟩
end
end NR

set_option Elab.async false
set_option linter.all false
set_option maxRecDepth 100000
/-! Exceptions: raise, try .. except X (as e), isinstance of what is caught. -/
namespace NR
open PySem PySem.Spec PyProof.Rows L2
/-- classes by their names -/
def clOf (l : List (Str × Addr)) (s : Str) : Addr := (l.lookup s).getD 0
/-- ValueError, or an own class -/
def clV (cl : Str → Addr) (y : Str) : V := if y = "ValueError" then .ty "ValueError" else .ref (cl y)
def clU (cl : Str → Addr) (y : Str) : Value := if y = "ValueError" then .type "ValueError" else .ref (cl y)
abbrev CTab := List ((Str × Str) × Bool)
def CTab.get (t : CTab) (c y : Str) : Option Bool := t.lookup (c, y)
/-- an own class over ValueError, without __init__ -/
structure ExC1 (K : PySem.W.Frag) (mg : Str → Option Value) (x : Str) (C : Addr) : Prop where
  g : mg x = some (.ref C)
  q : PySem.W.excIn K C [.type "ValueError", .type "Exception", .type "BaseException", .type "object"] "ValueError.__new__" = true
  k : PySem.W.keepIn K (.ref C) = true
  b : PySem.W.subIn K (.ref C) (.type "BaseException") = some true
  t : PySem.W.typeIn K (.ref C) = some (.type "type")
  e : ExcC K C
/-- pairs of classes: is the one under the other (as a clause asks, as isinstance asks) -/
def ExH (K : PySem.W.Frag) (cl : Str → Addr) (t : CTab) : Prop := ∀ p ∈ t, PySem.W.exmOne K (.ref (cl p.1.1)) (clU cl p.1.2) = some p.2
def ExI (K : PySem.W.Frag) (cl : Str → Addr) (t : CTab) : Prop := ∀ p ∈ t, PySem.W.kitOne K (.ref (cl p.1.1)) (clU cl p.1.2) = some p.2 ∧ ExcC K (cl p.1.1)
theorem exH_nil {K : PySem.W.Frag} {cl : Str → Addr} : ExH K cl [] := fun _ h => by cases h
theorem exH_cons {K : PySem.W.Frag} {cl : Str → Addr} {t : CTab} {p : (Str × Str) × Bool} (h : PySem.W.exmOne K (.ref (cl p.1.1)) (clU cl p.1.2) = some p.2) (r : ExH K cl t) : ExH K cl (p :: t) := fun q hq => by
  rcases List.mem_cons.mp hq with rfl | hq
  · exact h
  · exact r q hq
theorem exI_nil {K : PySem.W.Frag} {cl : Str → Addr} : ExI K cl [] := fun _ h => by cases h
theorem exI_cons {K : PySem.W.Frag} {cl : Str → Addr} {t : CTab} {p : (Str × Str) × Bool} (h : PySem.W.kitOne K (.ref (cl p.1.1)) (clU cl p.1.2) = some p.2) (e : ExcC K (cl p.1.1)) (r : ExI K cl t) : ExI K cl (p :: t) := fun q hq => by
  rcases List.mem_cons.mp hq with rfl | hq
  · exact ⟨h, e⟩
  · exact r q hq
theorem CTab.mem : ∀ {t : CTab} {c y : Str} {b : Bool}, t.get c y = some b → ((c, y), b) ∈ t
  | [], _, _, _, h => by simp [CTab.get] at h
  | (k, v) :: t, c, y, b, h => by
    unfold CTab.get at h
    rw [List.lookup_cons] at h
    split at h
    · rename_i e
      cases h
      have := eq_of_beq e
      rw [← this]
      exact List.mem_cons_self
    · exact List.mem_cons_of_mem _ (CTab.mem (t := t) h)
theorem ExH.get {K : PySem.W.Frag} {cl : Str → Addr} {t : CTab} (x : ExH K cl t) {c y : Str} {b : Bool} (h : t.get c y = some b) : PySem.W.exmOne K (.ref (cl c)) (clU cl y) = some b := x _ (CTab.mem h)
theorem ExI.get {K : PySem.W.Frag} {cl : Str → Addr} {t : CTab} (x : ExI K cl t) {c y : Str} {b : Bool} (h : t.get c y = some b) : PySem.W.kitOne K (.ref (cl c)) (clU cl y) = some b ∧ ExcC K (cl c) := x _ (CTab.mem h)

theorem kit_ref {K : PySem.W.Frag} {C D : Addr} {b : Bool} (hdct : PySem.W.hasDictIn K C = true) (ht : PySem.W.typeIn K (.ref C) = some (.type "type")) (h : PySem.W.subIn K (.ref D) (.ref C) = some b) (h0 : PySem.W.subIn K (.ref C) (.ref C) = some true) : PySem.W.kitOne K (.ref D) (.ref C) = some b := by
  obtain ⟨cd, hc, _⟩ := PySem.W.any_some hdct
  unfold PySem.W.kitOne
  split
  · rename_i e
    have := eq_of_beq e
    cases this
    rw [h0] at h
    exact h
  · unfold PySem.W.kitCls
    dsimp only
    rw [hc, ht]
    exact h
theorem kit_val {K : PySem.W.Frag} {D : Addr} {b : Bool} (h : PySem.W.subIn K (.ref D) (.type "ValueError") = some b) : PySem.W.kitOne K (.ref D) (.type "ValueError") = some b := by
  unfold PySem.W.kitOne
  split
  · rename_i e
    have := eq_of_beq e
    cases this
  · unfold PySem.W.kitCls
    dsimp only
    rw [if_pos (by decide +kernel)]
    exact h
/-! ### raise -/
def msRaise (x : Str) : MS := fun env h => .ex x none env h
section
variable {X : Cx} {G : Cf} {W : WX}
theorem ms_raise {x m : Str} {j : Nat} {p p2 pos pos2 : Pos} (hc : X.calm = true) (tk : Takes X W) (F : ExC1 X.K X.mg x (G.C x)) (hg : Gl X x := by rfl) (hdb : (x == ("__debug__" : Str)) = false := by decide) :
    PS X (.Raise (some (.Call (.Name x p) [.Constant (.str m) j p2] [] pos)) none pos2) (tS G W (msRaise x)) :=
  PS.imp (ps_raise hc tk (pmk_own PySem.F.excBase_ValueError F.q F.g F.k (raises_own F.b F.t) hg hdb)) fun D σ H ⟨et, env, h, hE, hH, hP⟩ =>
    hP et H σ _ none List.prefix_rfl (Ext.refl H) hH hE ⟨rfl, rfl⟩
end
/-! ### isinstance in a suite -/
def rIsET (K : PySem.W.Frag) (D a : Addr) : List V → Hp → VK → Prop := fun xs H Q => ∃ (tp : Addr) (cs : List V) (us : List Value) (b : Bool), xs = [.ref a, .ref tp] ∧ H tp = some (.tup cs) ∧ Paired ClsV cs us ∧ PySem.W.kitAny K (.ref D) us = some b ∧ Q (.bl b) H
theorem call_isET {X : Cx} {a D : Addr} {oe : Obj} {pn : List (Addr × Obj)} (C : ExcC X.K D) (hz : Zc (.ref D) none oe) (hf : ∃ vs, oe.data = .fields vs) : CallR (X.suite a ((a, oe) :: pn)) (.builtin "isinstance") (rIsET X.K D a) := by
  intro pins s σ H xs us Q I r h
  obtain ⟨tp, cs, ws, b, rfl, hT, k, e, q⟩ := h
  obtain ⟨u1, u2, rfl, r1, r2⟩ := vals2 r
  cases (show u2 = Value.ref tp from r2)
  cases (show u1 = Value.ref a from r1)
  obtain ⟨hget, _⟩ := I.pin (a, oe) (List.mem_append.mpr (.inl List.mem_cons_self))
  obtain ⟨vs, hv⟩ := hf
  have J : PySem.W.InstAt s.heap a oe D none := by
    obtain ⟨oc, od, oda, osl⟩ := oe
    obtain ⟨h1, h2⟩ := hz
    dsimp only at h1 h2 hv
    subst h1 h2 hv
    exact ⟨hget, rfl, rfl, trivial⟩
  obtain ⟨_, its, rv, o, h1, h2, n, h3⟩ := (show ObjOk _ _ H s.heap tp (.tup cs) from I.hok tp _ hT)
  have e3 := ClsV.all k rv
  subst e3
  obtain ⟨oc, od, dt, sl⟩ := o
  simp only at h2 h3
  subst h2 h3
  exact PySem.W.kia_tup (PySem.W.handS_kitx_exc C.hg C.hk C.hs C.hd C.ha C.hn C.ht C.hm) I.kIn J h1 e (fun z => nomatch z) fun tk => ⟨.bl b, H, I.kept (t' := tk) fun _ _ z => z, rfl, q⟩
theorem pe_no {X : Cx} {G : Cf} {W : WX} {e : Expr} {m : ME} (h0 : ∀ env h, m env h = .no) : PE X e (tE G W m) := ⟨fun _ _ _ _ _ _ ⟨et, env, h, _, _, hP⟩ => by
  rw [h0] at hP
  exact hP.elim⟩
def mIsE (t : CTab) (c : Str) (a i : Nat) (y : Str) : ME := fun env h => match env[i]? with
  | some (some (.exc a')) => if a' = a then (match t.get c y with | some b => .ok (.bl b) h | none => .no) else .no
  | _ => .no
def mIsET (t : CTab) (c : Str) (a i : Nat) (ys : List Str) : ME := fun env h => match env[i]? with
  | some (some (.exc a')) => if a' = a then (match allM' (t.get c) ys with | some bs => .ok (.bl (bs.any id)) h | none => .no) else .no
  | _ => .no
where allM' (f : Str → Option Bool) : List Str → Option (List Bool)
  | [] => some []
  | y :: ys => match f y, allM' f ys with
    | some b, some bs => some (b :: bs)
    | _, _ => none
/-- the classes that a tuple names -/
inductive CNs (X : Cx) (cl : Str → Addr) : List Str → List Expr → Prop
  | nil : CNs X cl [] []
  | own {y : Str} {ys : List Str} {es : List Expr} {p : Pos} (hg : Gl X y) (hm : X.mg y = some (.ref (cl y))) (hn : y ≠ "ValueError") (hd : (y == ("__debug__" : Str)) = false) (h : CNs X cl ys es) : CNs X cl (y :: ys) (.Name y p :: es)
  | val {ys : List Str} {es : List Expr} {p : Pos} (hg : Gl X "ValueError") (hm : X.mg "ValueError" = none) (h : CNs X cl ys es) : CNs X cl ("ValueError" :: ys) (.Name "ValueError" p :: es)
section
variable {X : Cx} {cl : Str → Addr}
theorem clV_own {y : Str} (hn : y ≠ "ValueError") : clV cl y = .ref (cl y) := by unfold clV; rw [if_neg hn]
theorem clU_own {y : Str} (hn : y ≠ "ValueError") : clU cl y = .ref (cl y) := by unfold clU; rw [if_neg hn]
theorem clV_val : clV cl "ValueError" = .ty "ValueError" := if_pos rfl
theorem clU_val : clU cl "ValueError" = .type "ValueError" := if_pos rfl
theorem clV_U (y : Str) : ClsV (clV cl y) (clU cl y) := by
  unfold clV clU
  split
  · exact .ty _
  · exact .own _
theorem CNs.pa : ∀ {ys : List Str} {es : List Expr}, CNs X cl ys es → PA X es (fun _ H Q => Q (ys.map (clV cl)) H)
  | [], _, .nil => pa_nil
  | _ :: _, _, .own (y := y) hg hm hn hd h => ⟨fun pos pins s σ H Q I q => (pa_cons (pe_glob (v := .ref (cl y)) hg hm rfl hd) h.pa rfl).run pos pins s σ H Q I (by rw [List.map_cons, clV_own hn] at q; exact q)⟩
  | _ :: _, _, .val hg hm h => ⟨fun pos pins s σ H Q I q => (pa_cons (pe_bltn (v := .ty "ValueError") hg hm (by decide +kernel : bootBuiltins "ValueError" = some (.type "ValueError")) rfl) h.pa rfl).run pos pins s σ H Q I (by rw [List.map_cons, clV_val] at q; exact q)⟩
theorem CNs.len : ∀ {ys : List Str} {es : List Expr}, CNs X cl ys es → es.length = ys.length
  | [], _, .nil => rfl
  | _ :: _, _, .own _ _ _ _ h => by simp [h.len]
  | _ :: _, _, .val _ _ h => by simp [h.len]
theorem paired_cls : ∀ ys : List Str, Paired ClsV (ys.map (clV cl)) (ys.map (clU cl))
  | [] => .nil
  | y :: ys => .cons (clV_U y) (paired_cls ys)
theorem kitAny_of {K : PySem.W.Frag} {t : CTab} {c : Str} (F : ExI K cl t) : ∀ {ys : List Str} {bs : List Bool}, mIsET.allM' (t.get c) ys = some bs → PySem.W.kitAny K (.ref (cl c)) (ys.map (clU cl)) = some (bs.any id)
  | [], bs, e => by
    simp only [mIsET.allM', Option.some.injEq] at e
    subst e
    rfl
  | y :: ys, bs, e => by
    unfold mIsET.allM' at e
    split at e
    · rename_i b bs' e1 e2
      cases e
      rw [List.map_cons]
      unfold PySem.W.kitAny
      rw [(F.get e1).1]
      cases b with
      | true => simp
      | false =>
        dsimp only
        rw [kitAny_of F e2]
        simp
    · cases e
end
section
variable {X : Cx} {G : Cf} {W : WX} {a : Addr} {oe : Obj} {pn : List (Addr × Obj)} {p p1 p2 pos : Pos}
theorem me_isE {t : CTab} {c y n : Str} (i : Nat) (hz : Zc (.ref (G.C c)) none oe) (hf : ∃ vs, oe.data = .fields vs) (F : ExI X.K G.C t) (hm : X.mg "isinstance" = none) (hy : CNs (X.suite a ((a, oe) :: pn)) G.C [y] [.Name y p2])
    (hN : X.N[i]? = some n := by rfl) (hv : Vis X.env.scope n := by first | exact Or.inl rfl | exact Or.inr (Or.inl rfl) | exact Or.inr (Or.inr rfl)) (hg : Gl X "isinstance" := by rfl) (hd : (n == ("__debug__" : Str)) = false := by decide) (hcd : (n == ("__classdict__" : Str)) = false := by decide) (hb : bootBuiltins "isinstance" = some (.builtin "isinstance") := by decide +kernel)
    (hs1 : starEach [.Name n p1, .Name y p2] X.env = (false, eval (.Name n p1) X.env) :: starEach [.Name y p2] X.env := by rfl) (hpl : (backTo pos (starEach [.Name y p2] X.env)).any (·.1) = false := by rfl) :
    PE (X.suite a ((a, oe) :: pn)) (.Call (.Name "isinstance" p) [.Name n p1, .Name y p2] [] pos) (tE G W (mIsE t c a i y)) := by
  cases hg0 : t.get c y with
  | none =>
    refine pe_no fun env h => ?_
    unfold mIsE
    split
    · split
      · rw [hg0]
      · rfl
    · rfl
  | some b0 =>
  have C := (F.get hg0).2
  exact PE.imp (pe_callB (X := X.suite a ((a, oe) :: pn)) (call_isE C hz hf) hg hm hb (pa_cons (pe_var (X := X.suite a ((a, oe) :: pn)) hN hv hd hcd) hy.pa hs1) (by decide) (by decide) hs1 hpl) fun σ H Q ⟨et, env, h, hE, hH, hP⟩ => by
    unfold mIsE at hP
    split at hP
    · rename_i a' ha
      obtain ⟨v, e1, r⟩ := hE.2 i _ ha
      have ev : v = .ref a' := by simpa [Den] using r
      subst ev
      split at hP
      · rename_i ea
        subst ea
        split at hP
        · rename_i b hb
          exact ⟨_, e1, clV G.C y, clU G.C y, b, rfl, fun u ru => ClsV.eq (clV_U y) ru, (F.get hb).1, hP.here hH _ (by simp)⟩
        · exact hP.elim
      · exact hP.elim
    · exact hP.elim
theorem me_isET {t : CTab} {c n : Str} {ys : List Str} {es : List Expr} {k : Nat} (i : Nat) (hz : Zc (.ref (G.C c)) none oe) (hf : ∃ vs, oe.data = .fields vs) (F : ExI X.K G.C t) (hm : X.mg "isinstance" = none) (hy : CNs (X.suite a ((a, oe) :: pn)) G.C ys es)
    (hN : X.N[i]? = some n := by rfl) (hv : Vis X.env.scope n := by first | exact Or.inl rfl | exact Or.inr (Or.inl rfl) | exact Or.inr (Or.inr rfl)) (hl : ys.length ≤ 1000 := by decide) (hl0 : ys.length ≠ 0 := by decide) (hg : Gl X "isinstance" := by rfl) (hd : (n == ("__debug__" : Str)) = false := by decide) (hcd : (n == ("__classdict__" : Str)) = false := by decide) (hb : bootBuiltins "isinstance" = some (.builtin "isinstance") := by decide +kernel)
    (hs1 : starEach [.Name n p1, .Tuple es k p2] X.env = (false, eval (.Name n p1) X.env) :: starEach [.Tuple es k p2] X.env := by rfl) (hs2 : starEach [.Tuple es k p2] X.env = (false, eval (.Tuple es k p2) X.env) :: starEach [] X.env := by rfl) (hpl : (backTo pos (starEach [.Tuple es k p2] X.env)).any (·.1) = false := by rfl) :
    PE (X.suite a ((a, oe) :: pn)) (.Call (.Name "isinstance" p) [.Name n p1, .Tuple es k p2] [] pos) (tE G W (mIsET t c a i ys)) := by
  cases hg0 : mIsET.allM' (t.get c) ys with
  | none =>
    refine pe_no fun env h => ?_
    unfold mIsET
    split
    · split
      · rw [hg0]
      · rfl
    · rfl
  | some bs0 =>
  rcases Nat.eq_zero_or_pos ys.length with h0 | h0
  · exact absurd h0 hl0
  have C : ExcC X.K (G.C c) := by
    cases ys with
    | nil => exact absurd rfl hl0
    | cons y ys =>
      unfold mIsET.allM' at hg0
      split at hg0
      · rename_i b bs e1 e2
        exact (F.get e1).2
      · cases hg0
  exact PE.imp (pe_callB (X := X.suite a ((a, oe) :: pn)) (call_isET C hz hf) hg hm hb (pa_cons (pe_var (X := X.suite a ((a, oe) :: pn)) hN hv hd hcd) (pa_cons (pe_tup hy.pa) pa_nil hs2) hs1) (by decide) (by decide) hs1 hpl) fun σ H Q ⟨et, env, h, hE, hH, hP⟩ => by
    unfold mIsET at hP
    split at hP
    · rename_i a' ha
      obtain ⟨v, e1, r⟩ := hE.2 i _ ha
      have ev : v = .ref a' := by simpa [Den] using r
      subst ev
      split at hP
      · rename_i ea
        subst ea
        split at hP
        · rename_i bs hb
          refine ⟨_, e1, sz (by rw [List.length_map]; omega), fun tp htp => ?_⟩
          exact ⟨tp, _, _, _, rfl, upd_same, paired_cls ys, kitAny_of F hb, hP et (upd H tp (.tup _)) List.prefix_rfl (Ext.new htp) (hH.new htp) _ (by simp)⟩
        · exact hP.elim
      · exact hP.elim
    · exact hP.elim
end
/-! ### try -/
def RS.unset (i : Nat) : RS → RS
  | .nx e h => .nx (e.set i none) h
  | .bk e h => .bk (e.set i none) h
  | .ct e h => .ct (e.set i none) h
  | .rt d h => .rt d h
  | .ex _ _ _ _ => .no
  | .no => .no
def RS.calm : RS → RS
  | .ex _ _ _ _ => .no
  | r => r
open Classical in
/-- the same whatever the number is -/
noncomputable def anyA (F : Nat → RS) : RS := if e : ∃ r, ∀ a, F a = r then choose e else .no
theorem anyA_eq {F : Nat → RS} {r : RS} (e : ∀ a, F a = r) : anyA F = r := by
  have ex : ∃ r, ∀ a, F a = r := ⟨r, e⟩
  unfold anyA
  rw [dif_pos ex]
  exact ((Classical.choose_spec ex 0).symm.trans (e 0))
theorem anyA_or (F : Nat → RS) : (∀ a, F a = anyA F) ∨ anyA F = .no := by
  by_cases e : ∃ r, ∀ a, F a = r
  · unfold anyA
    rw [dif_pos e]
    exact .inl (Classical.choose_spec e)
  · unfold anyA
    rw [dif_neg e]
    exact .inr rfl
/-- try: body except y as (slot i): suite -/
noncomputable def msTryAs (t : CTab) (y : Str) (i : Nat) (body : MS) (suite : Str → Nat → MS) : MS := fun env h => match body env h with
  | .ex c none e h1 => match t.get c y with
    | some true => anyA fun a => RS.unset i (suite c a (e.set i (some (.exc a))) h1)
    | some false => .ex c none e h1
    | none => .no
  | .ex _ _ _ _ => .no
  | r => r
def msTry (t : CTab) (y : Str) (body : MS) (suite : Str → MS) : MS := fun env h => match body env h with
  | .ex c none e h1 => match t.get c y with
    | some true => RS.calm (suite c e h1)
    | some false => .ex c none e h1
    | none => .no
  | .ex _ _ _ _ => .no
  | r => r
theorem EnvR.unset {G : Cf} {et : List Addr} {H : Hp} {env : EV} {σ : L2.St} (x : EnvR G et H env σ) (i : Nat) (v : Option V) : EnvR G et H (env.set i none) (σ.set i v) := by
  refine ⟨by simp [x.1], fun j d q => ?_⟩
  by_cases hj : i = j
  · subst hj
    by_cases hl : i < env.length
    · rw [List.getElem?_set_self hl] at q
      cases q
    · rw [List.getElem?_eq_none (by simp; omega)] at q
      cases q
  · rw [List.getElem?_set_ne hj] at q
    obtain ⟨v, e1, r⟩ := x.2 j d q
    exact ⟨v, by rw [List.getElem?_set_ne hj]; exact e1, r⟩
section
variable {X : Cx} {G : Cf} {W : WX} {body suite : List Stmt} {b₀ : Stmt} {np pos pos' : Pos}
theorem ms_tryAs {t : CTab} {y n : Str} (i : Nat) {mb : MS} {ms : Str → Nat → MS} (hs : X.stack = X.env :: X.outer) (hf : X.env.frame = some X.env.locals) (hN : X.N.Nodup) (F : ExH X.K G.C t) (hm : X.mg y = some (.ref (G.C y))) (tk : Takes X W)
    (hb : ∀ (W : WX) (pn : List (Addr × Obj)) (xe : Value → Shared → Prop), Takes (X.tr pn xe) W → PassesOwn (model X.prog X.w) X.A X.env xe → PSs (X.tr pn xe) body (tS G W mb))
    (hsu : ∀ (c : Str) (a : Addr) (oe : Obj) (pn : List (Addr × Obj)), Zc (.ref (G.C c)) none oe → (∃ vs, oe.data = .fields vs) → PSs (X.suite a ((a, oe) :: pn)) (b₀ :: suite) (tS G W0 (ms c a)))
    (hi : X.N[i]? = some n := by rfl) (hln : X.env.kindOf n = some .local := by rfl) (hg : Gl X y := by rfl) (hn : y ≠ "ValueError" := by decide) (hd : (y == ("__debug__" : Str)) = false := by decide) :
    PS X (.Try body [.ExceptHandler (some (.Name y np)) (some n) (b₀ :: suite) pos'] [] [] pos) (tS G W (msTryAs t y i mb ms)) := by
  refine PS.imp (ps_try_as (i := i) (tb := fun W => tS G W mb) (ts := fun a cls d D σ H => ∃ c, cls = .ref (G.C c) ∧ d = none ∧ tS G W0 (ms c a) D σ H) (Wout := W) hs hf hN hi hln ⟨hg, hd, .inl hm⟩ tk hb
    (fun a oe cls d pn hz hf => ⟨fun pins s σ H D I ⟨c, h1, h2, r⟩ => by subst h1 h2; exact (hsu c a oe pn hz hf).run pins s σ H D I r⟩)) fun D σ H ⟨et, env, h, hE, hH, hP⟩ => ⟨et, env, h, hE, hH, ?_⟩
  unfold msTryAs at hP
  revert hP
  cases mb env h with
  | no => exact fun z => z
  | nx e h1 => exact fun z => z
  | rt e h1 => exact fun z => z
  | bk e h1 => exact fun z => z
  | ct e h1 => exact fun z => z
  | ex c d e h1 =>
    cases d with
    | some fs => exact fun z => z.elim
    | none =>
      intro hP et' H' σ' cls dd p ex hr hE' hx
      obtain ⟨rfl, hdd⟩ := hx
      have hdd : dd = none := hdd
      subst hdd
      dsimp only at hP
      cases ht : t.get c y with
      | none => rw [ht] at hP; exact hP.elim
      | some b =>
        rw [ht] at hP
        refine ⟨b, by have := F.get ht; rw [clU_own hn] at this; exact this, fun hb a _ => ?_, fun hb => ?_⟩
        · subst hb
          dsimp only at hP
          refine ⟨c, rfl, rfl, et', e.set i (some (.exc a)), h1, hE'.set i (by simp [Den]), hr, ?_⟩
          have q := PstS.weak p ex hP
          rcases anyA_or (fun a => RS.unset i (ms c a (e.set i (some (.exc a))) h1)) with z | z
          · rw [← z a] at q
            revert q
            cases ms c a (e.set i (some (.exc a))) h1 with
            | no => exact fun z => z
            | rt d h2 => exact fun z => z
            | ex _ _ _ _ => exact fun z => z.elim
            | nx e2 h2 => exact fun q et1 H1 σ1 p1 e1 r1 E1 => q et1 H1 _ p1 e1 r1 (E1.unset i none)
            | bk e2 h2 => exact fun q et1 H1 σ1 p1 e1 r1 E1 => q et1 H1 _ p1 e1 r1 (E1.unset i none)
            | ct e2 h2 => exact fun q et1 H1 σ1 p1 e1 r1 E1 => q et1 H1 _ p1 e1 r1 (E1.unset i none)
          · rw [z] at q
            exact q.elim
        · subst hb
          exact hP et' H' σ' _ none p ex hr hE' ⟨rfl, rfl⟩
theorem ms_try {t : CTab} {y : Str} {mb : MS} {ms : Str → MS} (hs : X.stack = X.env :: X.outer) (hf : X.env.frame = some X.env.locals) (F : ExH X.K G.C t) (hm : X.mg y = some (.ref (G.C y))) (tk : Takes X W)
    (hb : ∀ (W : WX) (pn : List (Addr × Obj)) (xe : Value → Shared → Prop), Takes (X.tr pn xe) W → PassesOwn (model X.prog X.w) X.A X.env xe → PSs (X.tr pn xe) body (tS G W mb))
    (hsu : ∀ (c : Str) (a : Addr) (oe : Obj) (pn : List (Addr × Obj)), Zc (.ref (G.C c)) none oe → (∃ vs, oe.data = .fields vs) → PSs (X.suite a ((a, oe) :: pn)) (b₀ :: suite) (tS G W0 (ms c)))
    (hg : Gl X y := by rfl) (hn : y ≠ "ValueError" := by decide) (hd : (y == ("__debug__" : Str)) = false := by decide) :
    PS X (.Try body [.ExceptHandler (some (.Name y np)) none (b₀ :: suite) pos'] [] [] pos) (tS G W (msTry t y mb ms)) := by
  refine PS.imp (ps_try_only (tb := fun W => tS G W mb) (ts := fun a cls d D σ H => ∃ c, cls = .ref (G.C c) ∧ d = none ∧ tS G W0 (ms c) D σ H) (Wout := W) hs hf ⟨hg, hd, .inl hm⟩ tk hb
    (fun a oe cls d pn hz hf => ⟨fun pins s σ H D I ⟨c, h1, h2, r⟩ => by subst h1 h2; exact (hsu c a oe pn hz hf).run pins s σ H D I r⟩)) fun D σ H ⟨et, env, h, hE, hH, hP⟩ => ⟨et, env, h, hE, hH, ?_⟩
  unfold msTry at hP
  revert hP
  cases mb env h with
  | no => exact fun z => z
  | nx e h1 => exact fun z => z
  | rt e h1 => exact fun z => z
  | bk e h1 => exact fun z => z
  | ct e h1 => exact fun z => z
  | ex c d e h1 =>
    cases d with
    | some fs => exact fun z => z.elim
    | none =>
      intro hP et' H' σ' cls dd p ex hr hE' hx
      obtain ⟨rfl, hdd⟩ := hx
      have hdd : dd = none := hdd
      subst hdd
      dsimp only at hP
      cases ht : t.get c y with
      | none => rw [ht] at hP; exact hP.elim
      | some b =>
        rw [ht] at hP
        refine ⟨b, by have := F.get ht; rw [clU_own hn] at this; exact this, fun hb a _ => ?_, fun hb => ?_⟩
        · subst hb
          dsimp only at hP
          refine ⟨c, rfl, rfl, et', e, h1, hE', hr, ?_⟩
          have q := PstS.weak p ex hP
          revert q
          cases ms c e h1 with
          | ex _ _ _ _ => exact fun z => z.elim
          | _ => exact fun z => z
        · subst hb
          exact hP et' H' σ' _ none p ex hr hE' ⟨rfl, rfl⟩
end
end NR

set_option Elab.async false
set_option linter.all false
set_option maxRecDepth 100000
/-! sorted, max, min of a list; pop, index; methods without arguments; one of two readings. -/
namespace NR
open PySem PySem.Spec PyProof.Rows L2
def relabelS (scope sc : Scope) : Scope :=
  { scope with names := scope.names.map fun (n, k) => if (k == .free && sc.kind == .function && sc.names.lookup n == some .cell) then (n, .cell) else (n, k) }
/-- a comprehension within another one -/
theorem blkOk_in {N : List Str} {outer sc scope : Scope} {env : PySem.Env} {own : List (Str × Nat)} (hs : env.scope = sc) (h : blkC N (relabelS outer sc) scope own = true) : BlkOk N (relabel outer env) scope own := by
  have e : relabel outer env = relabelS outer sc := by subst hs; rfl
  rw [e]
  exact blkOk_by h
/-- one of two readings of an expression -/
def mOrE (m1 m2 : ME) : ME := fun env h => match m1 env h with
  | .no => m2 env h
  | r => r
section
variable {X : Cx} {G : Cf} {W : WX} {e o : Expr} {m1 m2 mo : ME} {name : Str} {apos cpos : Pos} {T id : String} {r : V → List V → Hp → VK → Prop} {f : D → List D → IH → R D}
theorem me_orE (h1 : PE X e (tE G W m1)) (h2 : PE X e (tE G W m2)) : PE X e (tE G W (mOrE m1 m2)) := ⟨fun pins s σ H Q I ⟨et, env, h, hE, hH, hP⟩ => by
  unfold mOrE at hP
  cases e1 : m1 env h with
  | no =>
    rw [e1] at hP
    exact h2.run pins s σ H Q I ⟨et, env, h, hE, hH, hP⟩
  | ok d h' => rw [e1] at hP; exact h1.run pins s σ H Q I ⟨et, env, h, hE, hH, by rw [e1]; exact hP⟩
  | ex c d h' => rw [e1] at hP; exact h1.run pins s σ H Q I ⟨et, env, h, hE, hH, by rw [e1]; exact hP⟩⟩
/-- a method without arguments -/
def mMeth0 (T : String) (f : D → List D → IH → R D) (mo : ME) : ME := fun env h => (mo env h).bind fun x h1 => if tyD T h1 x = true then f x [] h1 else .no
theorem me_meth0 (hK : X.K = G.K) (pa : PlainAttrs T) (slot : Slot T name id) (hty : typeOf (.builtin id) = pure (.type "method_descriptor")) (hm : MtR X id r) (hs : MethS G r f) (ho : PE X o (tE G W mo))
    (hbase : attributeBase o name X.env (eval o X.env) = eval o X.env := by rfl) (hline : (apos.endLine == cpos.line) = true := by rfl) :
    PE X (.Call (.Attribute o name apos) [] [] cpos) (tE G W (mMeth0 T f mo)) := PE.imp (pe_bm0 pa slot hty hm ho hbase hline) fun σ H Q ⟨et, env, h, hE, hH, hP⟩ => by
  refine ⟨et, env, h, hE, hH, (Pst.of_bind hP).imp fun et1 H1 h1 x p e hr q v hv => ?_⟩
  split at q
  · rename_i ht
    rw [hK]
    exact ⟨tyD_ok hr ht hv, hs et1 H1 h1 x v [] [] _ Q hv (by simp) hr q⟩
  · exact q.elim
end
def isrt (ns : List Int) : List Int := ns.mergeSort (fun a b => decide (a ≤ b))
theorem isrt_perm (ns : List Int) : (isrt ns).Perm ns := List.mergeSort_perm _ _
theorem isrt_sorted (ns : List Int) : (isrt ns).Pairwise (· ≤ ·) := by
  have := List.pairwise_mergeSort (le := fun a b : Int => decide (a ≤ b)) (fun a b c h1 h2 => by simp at *; omega) (fun a b => by simp; omega) ns
  exact this.imp (by simp)
theorem isrt_eq {ns ms : List Int} (p : ms.Perm ns) (s : ms.Pairwise (· ≤ ·)) : ms = isrt ns :=
  List.Perm.eq_of_pairwise (fun _ _ _ _ a b => Int.le_antisymm a b) s (isrt_sorted ns) (p.trans (isrt_perm ns).symm)
def bSorted : List D → IH → R D
  | [x], h => match (lstOf h x).bind (allM D.int?) with
    | some ns => .ok (.ref h.length) (h ++ [.lst ((isrt ns).map D.int)])
    | none => .no
  | _, _ => .no
def imax : List Int → Int
  | [] => 0
  | x :: xs => xs.foldl (fun a b => if b > a then b else a) x
def imin : List Int → Int
  | [] => 0
  | x :: xs => xs.foldl (fun a b => if b < a then b else a) x
theorem imax_go : ∀ (xs : List Int) (x : Int), xs.foldl (fun a b => if b > a then b else a) x ∈ x :: xs ∧ ∀ y ∈ x :: xs, y ≤ xs.foldl (fun a b => if b > a then b else a) x
  | [], x => by simp
  | z :: xs, x => by
    obtain ⟨h1, h2⟩ := imax_go xs (if z > x then z else x)
    rw [List.foldl_cons]
    generalize xs.foldl (fun a b => if b > a then b else a) (if z > x then z else x) = F at *
    refine ⟨?_, fun y hy => ?_⟩
    · rcases List.mem_cons.mp h1 with h | h
      · rw [h]; split <;> simp
      · exact List.mem_cons_of_mem _ (List.mem_cons_of_mem _ h)
    · have h3 := h2 _ List.mem_cons_self
      rcases List.mem_cons.mp hy with rfl | hy
      · split at h3 <;> omega
      · rcases List.mem_cons.mp hy with rfl | hy
        · split at h3 <;> omega
        · exact h2 y (List.mem_cons_of_mem _ hy)
theorem imin_go : ∀ (xs : List Int) (x : Int), xs.foldl (fun a b => if b < a then b else a) x ∈ x :: xs ∧ ∀ y ∈ x :: xs, xs.foldl (fun a b => if b < a then b else a) x ≤ y
  | [], x => by simp
  | z :: xs, x => by
    obtain ⟨h1, h2⟩ := imin_go xs (if z < x then z else x)
    rw [List.foldl_cons]
    generalize xs.foldl (fun a b => if b < a then b else a) (if z < x then z else x) = F at *
    refine ⟨?_, fun y hy => ?_⟩
    · rcases List.mem_cons.mp h1 with h | h
      · rw [h]; split <;> simp
      · exact List.mem_cons_of_mem _ (List.mem_cons_of_mem _ h)
    · have h3 := h2 _ List.mem_cons_self
      rcases List.mem_cons.mp hy with rfl | hy
      · split at h3 <;> omega
      · rcases List.mem_cons.mp hy with rfl | hy
        · split at h3 <;> omega
        · exact h2 y (List.mem_cons_of_mem _ hy)
theorem imax_mem {ns : List Int} (h : 0 < ns.length) : imax ns ∈ ns := by
  cases ns with
  | nil => simp at h
  | cons x xs => exact (imax_go xs x).1
theorem imax_le {ns : List Int} {y : Int} (h : y ∈ ns) : y ≤ imax ns := by
  cases ns with
  | nil => cases h
  | cons x xs => exact (imax_go xs x).2 y h
theorem imin_mem {ns : List Int} (h : 0 < ns.length) : imin ns ∈ ns := by
  cases ns with
  | nil => simp at h
  | cons x xs => exact (imin_go xs x).1
theorem imin_le {ns : List Int} {y : Int} (h : y ∈ ns) : imin ns ≤ y := by
  cases ns with
  | nil => cases h
  | cons x xs => exact (imin_go xs x).2 y h
def bMax1 : List D → IH → R D
  | [x], h => match (lstOf h x).bind (allM D.int?) with
    | some ns => if 0 < ns.length then .ok (.int (imax ns)) h else .no
    | none => .no
  | _, _ => .no
def bMin1 : List D → IH → R D
  | [x], h => match (lstOf h x).bind (allM D.int?) with
    | some ns => if 0 < ns.length then .ok (.int (imin ns)) h else .no
    | none => .no
  | _, _ => .no
def fPop0 : D → List D → IH → R D
  | .ref n, [], h => match h[n]? with
    | some (.lst xs) => match xs[xs.length - 1]? with
      | some y => .ok y (h.set n (.lst xs.dropLast))
      | none => .no
    | _ => .no
  | _, _, _ => .no
def fPopAt : D → List D → IH → R D
  | .ref n, [.int i], h => match h[n]? with
    | some (.lst xs) => match ixN xs.length i with
      | some k => match xs[k]? with
        | some y => if -(2 ^ 63) ≤ i ∧ i < 2 ^ 63 then .ok y (h.set n (.lst (xs.eraseIdx k))) else .no
        | none => .no
      | none => .no
    | _ => .no
  | _, _, _ => .no
def fClear : D → List D → IH → R D
  | .ref n, [], h => match h[n]? with
    | some (.lst xs) => .ok .non (h.set n (.lst []))
    | _ => .no
  | _, _, _ => .no
/-- the first place in a list of ints, of texts -/
def fIndexL : D → List D → IH → R D
  | x, [.int y], h => match (lstOf h x).bind (allM D.int?) with
    | some ns => if y ∈ ns then .ok (.int (ns.idxOf y : Nat)) h else .no
    | none => .no
  | x, [.str y], h => match (lstOf h x).bind (allM D.str?) with
    | some ns => if y ∈ ns then .ok (.int (ns.idxOf y : Nat)) h else .no
    | none => .no
  | _, _, _ => .no
section
variable {G : Cf}
theorem ints_den {et : List Addr} {H : Hp} {h : IH} {x : D} {v : V} {ns : List Int} (R : HRel G et h H) (e : (lstOf h x).bind (allM D.int?) = some ns) (r : Den G et H x v) : ∃ a, v = .ref a ∧ SqL G.K H a (ns.map V.int) := by
  simp only [Option.bind_eq_some_iff] at e
  obtain ⟨xs, e1, e2⟩ := e
  obtain ⟨a, vs, rfl, h1, h2⟩ := lst_ok R e1 r
  rw [allM_ints e2] at h2
  rw [h2.ints] at h1
  exact ⟨a, rfl, h1⟩
theorem strs_den {et : List Addr} {H : Hp} {h : IH} {x : D} {v : V} {ns : List (List Nat)} (R : HRel G et h H) (e : (lstOf h x).bind (allM D.str?) = some ns) (r : Den G et H x v) : ∃ a, v = .ref a ∧ SqL G.K H a ((ns.map strV).map V.str) := by
  simp only [Option.bind_eq_some_iff] at e
  obtain ⟨xs, e1, e2⟩ := e
  obtain ⟨a, vs, rfl, h1, h2⟩ := lst_ok R e1 r
  rw [allM_strs e2] at h2
  rw [h2.strs] at h1
  exact ⟨a, rfl, h1⟩
theorem bSorted_ok : CallS G (rSortedI G.K) bSorted := by
  intro et H h xs vs W Q rv R p
  unfold bSorted at p
  split at p
  · split at p
    · rename_i x ns e
      obtain ⟨v, rfl, r⟩ := list1 rv
      obtain ⟨a, rfl, hs⟩ := ints_den R e r
      refine ⟨a, ns, rfl, hs, fun ns' q pm so hq => ?_⟩
      rw [isrt_eq pm so]
      exact p.newL R DenL.ofInts q hq
    · exact p.elim
  · exact p.elim
theorem bMax1_ok : CallS G (rMax G.K) bMax1 := by
  intro et H h xs vs W Q rv R p
  unfold bMax1 at p
  split at p
  · split at p
    · rename_i x ns e
      split at p
      · rename_i c
        obtain ⟨v, rfl, r⟩ := list1 rv
        obtain ⟨a, rfl, hs⟩ := ints_den R e r
        refine ⟨a, ns, rfl, hs, c, fun m hm hle => ?_⟩
        have : m = imax ns := Int.le_antisymm (imax_le hm) (hle _ (imax_mem c))
        subst this
        exact p.here R _ (by simp)
      · exact p.elim
    · exact p.elim
  · exact p.elim
theorem bMin1_ok : CallS G (rMin G.K) bMin1 := by
  intro et H h xs vs W Q rv R p
  unfold bMin1 at p
  split at p
  · split at p
    · rename_i x ns e
      split at p
      · rename_i c
        obtain ⟨v, rfl, r⟩ := list1 rv
        obtain ⟨a, rfl, hs⟩ := ints_den R e r
        refine ⟨a, ns, rfl, hs, c, fun m hm hle => ?_⟩
        have : m = imin ns := Int.le_antisymm (hle _ (imin_mem c)) (imin_le hm)
        subst this
        exact p.here R _ (by simp)
      · exact p.elim
    · exact p.elim
  · exact p.elim
theorem DenL.dropLast {et : List Addr} {H : Hp} {ds : List D} {vs : List V} (h : DenL G et H ds vs) : DenL G et H ds.dropLast vs.dropLast := by
  rw [List.dropLast_eq_take, List.dropLast_eq_take, h.len]
  exact h.take _
theorem DenL.eraseIdx {et : List Addr} {H : Hp} {ds : List D} {vs : List V} (h : DenL G et H ds vs) (k : Nat) : DenL G et H (ds.eraseIdx k) (vs.eraseIdx k) := by
  rw [List.eraseIdx_eq_take_drop_succ, List.eraseIdx_eq_take_drop_succ]
  exact (h.take _).app (h.drop _)
theorem fPop0_ok : MethS G rPop fPop0 := by
  intro et H h x v xs vs W Q rx rv R p
  unfold fPop0 at p
  split at p
  · split at p
    · rename_i n _ ys hx
      split at p
      · rename_i y hy
        obtain ⟨a, us, h2, rfl, h3, h4⟩ := den_list R hx rx
        obtain ⟨w, e1, r1⟩ := h4.get hy
        refine ⟨a, us, w, rfl, by simpa using rv, h3, by rw [h4.len]; exact e1, ?_⟩
        have ex : Ext H (upd H a (.lst us.dropLast)) := Ext.mut h3 True.intro
        exact p et _ List.prefix_rfl ex (R.set hx h2 rfl h3 True.intro ⟨_, upd_same, (h4.dropLast).mono List.prefix_rfl ex⟩) _ (r1.mono List.prefix_rfl ex)
      · exact p.elim
    · exact p.elim
  · exact p.elim
theorem fPopAt_ok : MethS G rPopAt fPopAt := by
  intro et H h x v xs vs W Q rx rv R p
  unfold fPopAt at p
  split at p
  · split at p
    · rename_i n i _ ys hx
      split at p
      · rename_i k hk
        split at p
        · rename_i y hy
          split at p
          · rename_i c
            obtain ⟨w, rfl, h1⟩ := list1 rv
            obtain ⟨a, us, h2, rfl, h3, h4⟩ := den_list R hx rx
            obtain ⟨w2, e1, r1⟩ := h4.get hy
            refine ⟨a, us, i, k, w2, rfl, by rw [den_int.mp h1], h3, c.1, c.2, by rw [h4.len]; exact (ixN_seq hk).1, e1, ?_⟩
            have ex : Ext H (upd H a (.lst (us.eraseIdx k))) := Ext.mut h3 True.intro
            exact p et _ List.prefix_rfl ex (R.set hx h2 rfl h3 True.intro ⟨_, upd_same, (h4.eraseIdx k).mono List.prefix_rfl ex⟩) _ (r1.mono List.prefix_rfl ex)
          · exact p.elim
        · exact p.elim
      · exact p.elim
    · exact p.elim
  · exact p.elim
theorem idx_first {A : Type} [BEq A] [LawfulBEq A] : ∀ {ns : List A} {y : A}, y ∈ ns → ns[ns.idxOf y]? = some y ∧ ∀ m z, m < ns.idxOf y → ns[m]? = some z → (z == y) = false
  | [], _, h => by cases h
  | n :: ns, y, h => by
    by_cases e : n = y
    · subst e
      rw [List.idxOf_cons_self]
      exact ⟨rfl, fun m z hm => absurd hm (Nat.not_lt_zero m)⟩
    · have e' : (n == y) = false := beq_eq_false_iff_ne.mpr e
      rw [List.idxOf_cons, e']
      have hm : y ∈ ns := by
        rcases List.mem_cons.mp h with h | h
        · exact absurd h.symm e
        · exact h
      obtain ⟨h1, h2⟩ := idx_first hm
      refine ⟨by simpa using h1, fun m z hm hz => ?_⟩
      cases m with
      | zero => simp at hz; subst hz; exact e'
      | succ m => exact h2 m z (by simpa using hm) (by simpa using hz)
theorem fIndexL_ok : MethS G (rIndex G.K) fIndexL := by
  intro et H h x v xs vs W Q rx rv R p
  unfold fIndexL at p
  split at p
  · rename_i y
    split at p
    · rename_i ns e
      split at p
      · rename_i c
        obtain ⟨w, rfl, h1⟩ := list1 rv
        obtain ⟨a, rfl, hs⟩ := ints_den R e rx
        obtain ⟨q1, q2⟩ := idx_first c
        refine ⟨a, _, w, ns.idxOf y, .int y, rfl, rfl, hs, by rw [den_int.mp h1]; rfl, ?_, by rw [List.getElem?_map, q1]; rfl, by rw [den_int.mp h1]; simp [eqV], fun m z' hm hz => ?_, p.here R _ (by simp)⟩
        · simp [flatV]
        · rw [List.getElem?_map] at hz
          cases hn : ns[m]? with
          | none => rw [hn] at hz; cases hz
          | some z0 =>
            rw [hn] at hz
            cases hz
            rw [den_int.mp h1]
            exact q2 m z0 hm hn
      · exact p.elim
    · exact p.elim
  · rename_i y
    split at p
    · rename_i ns e
      split at p
      · rename_i c
        obtain ⟨w, rfl, h1⟩ := list1 rv
        obtain ⟨a, rfl, hs⟩ := strs_den R e rx
        obtain ⟨q1, q2⟩ := idx_first c
        refine ⟨a, _, w, ns.idxOf y, .str (strV y), rfl, rfl, hs, by rw [den_str.mp h1]; rfl, ?_, by rw [List.getElem?_map, List.getElem?_map, q1]; rfl, by rw [den_str.mp h1]; simp [eqV], fun m z' hm hz => ?_, p.here R _ (by simp)⟩
        · simp [flatV]
        · rw [List.getElem?_map, List.getElem?_map] at hz
          cases hn : ns[m]? with
          | none => rw [hn] at hz; cases hz
          | some z0 =>
            rw [hn] at hz
            cases hz
            rw [den_str.mp h1]
            have := q2 m z0 hm hn
            exact beq_eq_false_iff_ne.mpr fun z => (beq_eq_false_iff_ne.mp this) (strV_inj z)
      · exact p.elim
    · exact p.elim
  · exact p.elim
end
end NR

set_option Elab.async false
set_option linter.all false
set_option maxRecDepth 100000
/-! zip and enumerate over whatever is not written: lists, tuples, texts, mixed. -/
namespace NR
open PySem PySem.Spec PyProof.Rows L2
open Sem (wp)

inductive Kd where
  | ls (a : Addr)
  | tp (a : Addr)
  | tx (x : Str)
def Kd.v : Kd → V
  | .ls a => .ref a
  | .tp a => .ref a
  | .tx x => .str x
def Kd.At (K : PySem.W.Frag) (H : Hp) : Kd → List V → Prop
  | .ls a, xs => SqL K H a xs
  | .tp a, xs => SqT K H a xs
  | .tx x, xs => xs = x.cps.toList.map fun c => V.str ⟨#[c]⟩
def Kd.It (h : Heap) (it : Addr) : Kd → Nat → Prop
  | .ls a, i => h.IsListIter it a i
  | .tp a, i => h.IsTupleIter it a i
  | .tx x, i => ∃ t, h.IsStrIter it (strIterType x) x t i
def Kd.ad : Kd → List Addr
  | .ls a => [a]
  | .tp a => [a]
  | .tx _ => []
theorem Kd.It.keep {h h' : Heap} {it : Addr} {k : Kd} {i : Nat} (q : k.It h it i) (e : ∀ o, h.get? it = some o → h'.get? it = some o) : k.It h' it i := by
  cases k with
  | ls a => exact Heap.IsListIter.at q e
  | tp a => exact Heap.IsTupleIter.at q e
  | tx x => obtain ⟨t, o, ho, r⟩ := q; exact ⟨t, o, e o ho, r⟩
theorem Kd.It.obj {h : Heap} {it : Addr} {k : Kd} {i : Nat} (q : k.It h it i) : ∃ o, h.get? it = some o ∧ ∀ v, o.data ≠ .cell v := by
  cases k with
  | ls a => obtain ⟨o, e, c, d⟩ := q; exact ⟨o, e, fun v z => by rw [d] at z; cases z⟩
  | tp a => obtain ⟨o, e, c, d⟩ := q; exact ⟨o, e, fun v z => by rw [d] at z; cases z⟩
  | tx x => obtain ⟨t, o, e, c, d⟩ := q; exact ⟨o, e, fun v z => by rw [d] at z; cases z⟩
section
variable {X : Cx} {pins : List (Addr × Obj)} {σ : L2.St} {H : Hp} {s : Shared}
theorem Kd.At.inj (I : Inv X pins σ H s) {k : Kd} {xs ys : List V} (a : k.At X.K H xs) (b : k.At X.K H ys) : xs = ys := by
  cases k with
  | ls d => exact I.list_inj a b
  | tp d => exact I.tuple_inj a b
  | tx x => exact a.trans b.symm
theorem vals_draw {xs : List V} {its : List Value} (r : Vals xs its) {j : Nat} {u : Value} (e : its.toArray[j]? = some u) : ∃ x, xs[j]? = some x ∧ RelV x u := by
  have hl := r.length
  have e' : its[j]? = some u := by simpa using e
  have hj : j < its.length := (List.getElem?_eq_some_iff.mp e').1
  have hx : xs[j]? = some (xs[j]'(by omega)) := List.getElem?_eq_getElem (by omega)
  obtain ⟨u', hu, ru⟩ := r.get hx
  rw [e'] at hu
  cases hu
  exact ⟨_, hx, ru⟩
theorem Kd.draws (I : Inv X pins σ H s) (k : Kd) {xs : List V} {it : Addr} {i : Nat} (ha : k.At X.K H xs) (hi : k.It s.heap it i) (hn : it ∉ k.ad) {A : Around} (hh : A.handled = none) :
    ∃ (P : Nat → Value → Prop) (St : Nat → Heap → Prop), Draws X.prog X.w A it (it :: k.ad) xs.length P St ∧ St i s.heap ∧ (∀ j u, P j u → ∃ x, xs[j]? = some x ∧ RelV x u) ∧ ∀ j h, St j h → k.It h it j := by
  cases k with
  | ls a =>
    obtain ⟨its, rv, p, hz⟩ := I.list ha
    have e : its.toArray.size = xs.length := by have := rv.length; simp; omega
    have D := Draws.list (prog := X.prog) (w := X.w) (A := A) hh it a (fun z => hn (by simp [Kd.ad, z])) its.toArray
    rw [e] at D
    exact ⟨_, _, D, ⟨hi, p.isList⟩, fun j u q => vals_draw rv q, fun j h q => q.1⟩
  | tp a =>
    obtain ⟨its, rv, p, hz⟩ := I.tuple ha
    have e : its.toArray.size = xs.length := by have := rv.length; simp; omega
    have D := Draws.tuple (prog := X.prog) (w := X.w) (A := A) hh it a (fun z => hn (by simp [Kd.ad, z])) its.toArray
    rw [e] at D
    exact ⟨_, _, D, ⟨hi, p⟩, fun j u q => vals_draw rv q, fun j h q => q.1⟩
  | tx x =>
    obtain ⟨t, hi⟩ := hi
    have e : x.cps.size = xs.length := by rw [show xs = _ from ha]; simp
    have D := Draws.text (prog := X.prog) (w := X.w) (A := A) hh it x t
    rw [e] at D
    refine ⟨_, _, D, hi, fun j u ⟨c, t', hc, q⟩ => ⟨.str ⟨#[c]⟩, ?_, t', q⟩, fun j h q => ⟨t, q⟩⟩
    rw [show xs = _ from ha]
    simp [hc]
theorem Kd.begins (I : Inv X pins σ H s) (k : Kd) {xs : List V} (ha : k.At X.K H xs) {u : Value} (r : RelV k.v u) :
    ∃ (o : Obj) (B : Heap → Prop), Begins u o B ∧ B s.heap ∧ (∀ (h : Heap) (it : Addr), h.get? it = some o → k.It h it 0) ∧ ∀ b ∈ k.ad, b < s.heap.objs.size := by
  cases k with
  | ls a =>
    obtain ⟨its, rv, p, hz⟩ := I.list ha
    obtain rfl : u = Value.ref a := r
    exact ⟨_, _, begins_list a its.toArray, p.isList, fun h it e => ⟨_, e, rfl, rfl⟩, fun b hb => by
      obtain rfl : b = a := by simpa [Kd.ad] using hb
      exact p.lt⟩
  | tp a =>
    obtain ⟨its, rv, p, hz⟩ := I.tuple ha
    obtain rfl : u = Value.ref a := r
    refine ⟨_, _, begins_tuple a its.toArray, p, fun h it e => ⟨_, e, rfl, rfl⟩, fun b hb => ?_⟩
    obtain rfl : b = a := by simpa [Kd.ad] using hb
    obtain ⟨o, e, _⟩ := p
    exact Heap.lt_size e
  | tx x =>
    obtain ⟨t, rfl⟩ := r
    exact ⟨_, _, begins_text x t, trivial, fun h it e => ⟨t, _, e, rfl, rfl⟩, fun b hb => by simp [Kd.ad] at hb⟩
end

/-- two walked side by side, n of them -/
def Itq (K : PySem.W.Frag) (k1 k2 : Kd) (n : Nat) : It :=
  ⟨fun i H => i < n ∧ ∃ xs ys, k1.At K H xs ∧ k2.At K H ys ∧ min xs.length ys.length = n,
    fun i H v H' => ∃ T x y, v = .ref T ∧ H T = none ∧ H' = upd H T (.tup [x, y]) ∧ (∀ xs, k1.At K H xs → xs[i]? = some x) ∧ ∀ ys, k2.At K H ys → ys[i]? = some y,
    fun i H => n ≤ i ∧ ∃ xs ys, k1.At K H xs ∧ k2.At K H ys ∧ min xs.length ys.length = n⟩
def Ieq (K : PySem.W.Frag) (k : Kd) (c : Int) (n : Nat) : It :=
  ⟨fun i H => i < n ∧ ∃ xs, k.At K H xs ∧ xs.length = n,
    fun i H v H' => ∃ T x, v = .ref T ∧ H T = none ∧ H' = upd H T (.tup [.int (c + (i : Nat)), x]) ∧ ∀ xs, k.At K H xs → xs[i]? = some x,
    fun i H => n ≤ i ∧ ∃ xs, k.At K H xs ∧ xs.length = n⟩
def Zst (k1 k2 : Kd) (n N : Nat) (i : Nat) (h : Heap) : Prop :=
  i ≤ n ∧ IsZip h (N + 4) (N + 2) (N + 3) .none ∧ IsTupOf2 h (N + 2) (.ref N) (.ref (N + 1)) ∧ (∃ a b, IsTupOf2 h (N + 3) a b) ∧ k1.It h N i ∧ k2.It h (N + 1) i
theorem Zst.obj {k1 k2 : Kd} {n N i : Nat} {h : Heap} (q : Zst k1 k2 n N i h) : ∀ b ∈ [N + 4, N + 2, N + 3, N, N + 1], ∃ o, h.get? b = some o ∧ ∀ v, o.data ≠ .cell v := by
  obtain ⟨_, z, ti, ⟨a, b, to⟩, p1, p2⟩ := q
  intro c hc
  have : c = N + 4 ∨ c = N + 2 ∨ c = N + 3 ∨ c = N ∨ c = N + 1 := by simpa using hc
  rcases this with e | e | e | e | e <;> subst e
  · exact ⟨_, z, fun v x => nomatch x⟩
  · exact ⟨_, ti, fun v x => nomatch x⟩
  · exact ⟨_, to, fun v x => nomatch x⟩
  · exact p1.obj
  · exact p2.obj
theorem ad_new {k : Kd} {N j : Nat} (h : ∀ b ∈ k.ad, b < N) : N + j ∉ k.ad := fun x => absurd (h _ x) (Nat.not_lt.mpr (Nat.le_add_right N j))
section
variable {P : Program} {w : World} {K : PySem.W.Frag} {elts : List Expr} {kk : Nat} {tpos : Pos}
theorem turn_zq (k1 k2 : Kd) (n N : Nat) (h1 : ∀ b ∈ k1.ad, b < N) (h2 : ∀ b ∈ k2.ad, b < N) :
    Turn P w K (.Tuple elts kk tpos) (Itq K k1 k2 n) [N + 4, N + 2, N + 3, N, N + 1] (N + 4) (Zst k1 k2 n N) where
  mem := by simp
  obj := fun i h q => q.obj
  keep := fun i h h' q k => by
    obtain ⟨l, z, ti, ⟨a, b, to⟩, p1, p2⟩ := q
    exact ⟨l, k _ (by simp) _ z, k _ (by simp) _ ti, ⟨a, b, k _ (by simp) _ to⟩, p1.keep fun o e => k _ (by simp) o e, p2.keep fun o e => k _ (by simp) o e⟩
  item := by
    intro X hP hw hK hc i pins s σ H E I hf st hg
    subst hP hw hK
    obtain ⟨hlt, xs, ys, a1, a2, hm⟩ := hg
    have live : ∀ b ∈ [N + 4, N + 2, N + 3, N, N + 1], b < s.heap.objs.size := fun b hb => by
      obtain ⟨o, e, _⟩ := st.obj b hb
      exact Heap.lt_size e
    obtain ⟨hle, hz, hTI, hTO, q1, q2⟩ := st
    obtain ⟨P1, S1, D1, s1, r1, g1⟩ := Kd.draws (A := X.A.in1) I k1 a1 q1 (ad_new (j := 0) h1) (I.ok.hd hc)
    obtain ⟨P2, S2, D2, s2, r2, g2⟩ := Kd.draws (A := X.A.in1) I k2 a2 q2 (ad_new (j := 1) h2) (I.ok.hd hc)
    have Wz := GoesN.zip2 (elts := elts) (x1 := kk) (pos := tpos) (zip_sep2 h1 h2) D1 D2
    refine Wz.goes i s _ E (by rw [hm]; exact hlt) ⟨hz, hTI, hTO, s1, s2⟩ fun v h' tk hY st' hk htk => ?_
    obtain ⟨T, u1, u2, rfl, hT, pu1, pu2, hTup⟩ := hY
    obtain ⟨x, hx, rx⟩ := r1 _ _ pu1
    obtain ⟨y, hy, ry⟩ := r2 _ _ pu2
    have new : ObjOk X.prog X.w (upd H T (.tup [x, y])) h' T (.tup [x, y]) := ⟨by show 2 ≤ sizeLine; decide, [u1, u2], .cons rx (.cons ry .nil), hTup⟩
    have I1 := I.turnedNew (t' := tk) (ch := [N + 4, N + 2, N + 3, N, N + 1]) (fun b o hb e => hk b o (fun z => hb (by
      have : b = N + 4 ∨ b = N + 3 ∨ b = N ∨ b = N + 1 := by simpa using z
      rcases this with e | e | e | e <;> simp [e])) e) hf hT new
    refine ⟨.ref T, _, I1, rfl, ⟨T, x, y, rfl, I.hok.fresh hT, rfl, fun l hl => ?_, fun l hl => ?_⟩, ⟨hlt, st'.1, st'.2.1, st'.2.2.1, g1 _ _ st'.2.2.2.1, g2 _ _ st'.2.2.2.2⟩, fun b hb => ?_⟩
    · rw [Kd.At.inj I hl a1]; exact hx
    · rw [Kd.At.inj I hl a2]; exact hy
    · rw [upd_ne (Nat.ne_of_lt (Nat.lt_of_lt_of_le (live b hb) hT))]
      exact (hf b hb).1
  done := by
    intro X hP hw hK hc i pins s σ H E I hf st hg
    subst hP hw hK
    obtain ⟨hge, xs, ys, a1, a2, hm⟩ := hg
    obtain ⟨hle, hz, hTI, hTO, q1, q2⟩ := st
    have hi : i = min xs.length ys.length := by omega
    obtain ⟨P1, S1, D1, s1, r1, g1⟩ := Kd.draws (A := X.A.in1) I k1 a1 q1 (ad_new (j := 0) h1) (I.ok.hd hc)
    obtain ⟨P2, S2, D2, s2, r2, g2⟩ := Kd.draws (A := X.A.in1) I k2 a2 q2 (ad_new (j := 1) h2) (I.ok.hd hc)
    have Wz := GoesN.zip2 (elts := elts) (x1 := kk) (pos := tpos) (zip_sep2 h1 h2) D1 D2
    rw [hi] at s1 s2
    refine Wz.stops s _ E ⟨hz, hTI, hTO, s1, s2⟩ fun h' tk hk htk => ?_
    exact I.turnedL (t' := tk) (ch := [N + 4, N + 2, N + 3, N, N + 1]) (fun b o hb e => hk b o (fun z => hb (by
      have : b = N + 4 ∨ b = N + 3 ∨ b = N ∨ b = N + 1 := by simpa using z
      rcases this with e | e | e | e <;> simp [e])) e) hf
  self := fun A i s Q E st h => wpAny_pyIter_zip st.2.1 h
def Est (k : Kd) (c : Int) (n N : Nat) (i : Nat) (h : Heap) : Prop := i ≤ n ∧ (∃ old, IsEnum h (N + 1) N (c + (i : Int)) old) ∧ k.It h N i
theorem Est.obj {k : Kd} {c : Int} {n N i : Nat} {h : Heap} (q : Est k c n N i h) : ∀ b ∈ [N + 1, N], ∃ o, h.get? b = some o ∧ ∀ v, o.data ≠ .cell v := by
  obtain ⟨_, ⟨o, z⟩, p⟩ := q
  intro b hb
  have : b = N + 1 ∨ b = N := by simpa using hb
  rcases this with e | e <;> subst e
  · exact ⟨_, z, fun v x => nomatch x⟩
  · exact p.obj
theorem turn_eq (k : Kd) (c : Int) (n N : Nat) (h1 : ∀ b ∈ k.ad, b < N) :
    Turn P w K (.Tuple elts kk tpos) (Ieq K k c n) [N + 1, N] (N + 1) (Est k c n N) where
  mem := by simp
  obj := fun i h q => q.obj
  keep := fun i h h' q kp => by
    obtain ⟨l, ⟨o, z⟩, p⟩ := q
    exact ⟨l, ⟨o, kp _ (by simp) _ z⟩, p.keep fun o e => kp _ (by simp) o e⟩
  item := by
    intro X hP hw hK hc i pins s σ H E I hf st hg
    subst hP hw hK
    obtain ⟨hlt, xs, a1, hm⟩ := hg
    have live : ∀ b ∈ [N + 1, N], b < s.heap.objs.size := fun b hb => by
      obtain ⟨o, e, _⟩ := st.obj b hb
      exact Heap.lt_size e
    obtain ⟨hle, hz, q1⟩ := st
    obtain ⟨P1, S1, D1, s1, r1, g1⟩ := Kd.draws (A := X.A.in1) I k a1 q1 (ad_new (j := 0) h1) (I.ok.hd hc)
    have We := GoesN.enumFrom (elts := elts) (x1 := kk) (pos := tpos) c D1 (N + 1) (Nat.succ_ne_self _) (notIn_new (j := 1) (i := 0) h1 (by omega)) (by simp)
    refine We.goes i s _ E (by rw [hm]; exact hlt) ⟨hz, s1⟩ fun v h' tk hY st' hk htk => ?_
    obtain ⟨T, t, u, rfl, hT, pu, hTup⟩ := hY
    obtain ⟨x, hx, rx⟩ := r1 _ _ pu
    have new : ObjOk X.prog X.w (upd H T (.tup [.int (c + (i : Nat)), x])) h' T (.tup [.int (c + (i : Nat)), x]) := ⟨by show 2 ≤ sizeLine; decide, [.int (c + (i : Int)) t, u], .cons ⟨t, rfl⟩ (.cons rx .nil), hTup⟩
    have I1 := I.turnedNew (t' := tk) (ch := [N + 1, N]) (fun b o hb e => hk b o hb e) hf hT new
    refine ⟨.ref T, _, I1, rfl, ⟨T, x, rfl, I.hok.fresh hT, rfl, fun l hl => ?_⟩, ⟨hlt, st'.1, g1 _ _ st'.2⟩, fun b hb => ?_⟩
    · rw [Kd.At.inj I hl a1]; exact hx
    · rw [upd_ne (Nat.ne_of_lt (Nat.lt_of_lt_of_le (live b hb) hT))]
      exact (hf b hb).1
  done := by
    intro X hP hw hK hc i pins s σ H E I hf st hg
    subst hP hw hK
    obtain ⟨hge, xs, a1, hm⟩ := hg
    obtain ⟨hle, hz, q1⟩ := st
    have hi : i = xs.length := by omega
    obtain ⟨P1, S1, D1, s1, r1, g1⟩ := Kd.draws (A := X.A.in1) I k a1 q1 (ad_new (j := 0) h1) (I.ok.hd hc)
    have We := GoesN.enumFrom (elts := elts) (x1 := kk) (pos := tpos) c D1 (N + 1) (Nat.succ_ne_self _) (notIn_new (j := 1) (i := 0) h1 (by omega)) (by simp)
    rw [hi] at s1 hz
    refine We.stops s _ E ⟨hz, s1⟩ fun h' tk hk htk => ?_
    exact I.turnedL (t' := tk) (ch := [N + 1, N]) (fun b o hb e => hk b o hb e) hf
  self := fun A i s Q E st h => let ⟨_, ⟨_, z⟩, _⟩ := st; wpAny_pyIter_enum z h
end

set_option maxHeartbeats 1000000 in
/-- enumerate of one thing -/
theorem meets_enum1 {x : Value} {ob : Obj} {B : Heap → Prop} (b : Begins x ob B) :
    Meets (Builtin.«enumerate.__new__» ⟨[.type "enumerate", x], []⟩) (fun _ R s => B s.heap ∧ R (.ok (.ret (.ref (s.heap.push ob).objs.size)))
      { s with heap := (s.heap.push ob).push { cls := .type "enumerate", data := .fields #[.none, .bool false, .ref s.heap.objs.size, rawInt 0, .none, .none] } }) := .of_wp fun pr w A R s hh => by
  obtain ⟨hp, gg, dd, tt, oo⟩ := s
  obtain ⟨hb, hh⟩ := hh
  have hsub := sub_enumerate
  have qi : ∀ {A' : Around} {E : Value → Shared → Prop} {Q : Value → Shared → Prop}, Q (.ref hp.objs.size) ⟨hp.push ob, gg, dd, tt, oo⟩ → wpAny (model pr w) A' (pyIter x) Q E ⟨hp, gg, dd, tt, oo⟩ := fun z => b.iter pr w _ _ ⟨hp, gg, dd, tt, oo⟩ _ hb z
  wp_walk using qi
  refine wpAny_stack_any fun st => wpAny_pure ?_
  split
  · rename_i cc _ _ _ _ _
    cases (cc == Value.type "enumerate") <;> (wp_walk using qi; exact ⟨_, rfl, hh⟩)
  · wp_walk using qi
    exact ⟨_, rfl, hh⟩
theorem call_enum1 {prog : Program} {w : World} {A : Around} {E : Value → Shared → Prop} {s : Shared} {x : Value} {ob : Obj} {B : Heap → Prop} {Q : Value → Shared → Prop} (b : Begins x ob B) (hb : B s.heap)
    (k : ∀ h', IsEnum h' (s.heap.objs.size + 1) s.heap.objs.size 0 .none → h'.get? s.heap.objs.size = some ob → (∀ c o, s.heap.get? c = some o → h'.get? c = some o) → Q (.ref (s.heap.objs.size + 1)) { s with heap := h' }) :
    wpAny (model prog w) A (call (.type "enumerate") [x]) Q E s := by
  refine callType_new F.called_enumerate (by decide) (F.typeCall_enumerate_1 _) (F.newCall_enumerate_1 _) (fun obj => F.args_object_init_2 obj _) F.entry_enumerate_new (meets_enum1 b) ⟨hb, ?_⟩
  have sz : (s.heap.push ob).objs.size = s.heap.objs.size + 1 := Heap.size_push ..
  have g := Heap.get?_push_size (s.heap.push ob) (o := { cls := .type "enumerate", data := .fields #[.none, .bool false, .ref s.heap.objs.size, rawInt 0, .none, .none] }) rfl
  rw [sz] at g
  show _ ∧ _
  rw [sz]
  exact ⟨⟨_, g, rfl⟩, k _ g (Heap.get?_push_of_some _ (Heap.get?_push_size _ b.free)) fun c o e => Heap.get?_push_of_some _ (Heap.get?_push_of_some _ e)⟩

def iZq (K : PySem.W.Frag) (ta : TA) : TI := fun σ H R => ta σ H fun vs H1 => ∃ k1 k2 xs ys, vs = [Kd.v k1, Kd.v k2] ∧ k1.At K H1 xs ∧ k2.At K H1 ys ∧ R (Itq K k1 k2 (min xs.length ys.length)) H1
def iEq (K : PySem.W.Frag) (ta : TA) : TI := fun σ H R => ta σ H fun vs H1 => ∃ k xs, vs = [Kd.v k] ∧ k.At K H1 xs ∧ R (Ieq K k 0 xs.length) H1
section
variable {X : Cx} {e e2 : Expr} {ta : TA} {p pos tpos : Pos} {elts : List Expr} {kk : Nat}
theorem pi_zq (hg : Gl X "zip") (hm : X.mg "zip" = none) (ha : PA X [e, e2] ta) (hs : starEach [e, e2] X.env = (false, eval e X.env) :: starEach [e2] X.env := by rfl) (hpl : (backTo pos (starEach [e2] X.env)).any (·.1) = false := by rfl) :
    PI X (.Tuple elts kk tpos) (.Call (.Name "zip" p) [e, e2] [] pos) (iZq X.K ta) := by
  refine ⟨fun pins s σ H R I h => ?_⟩
  refine Call_ (ld_blt I hg hm PyProof.Rows.boot_zip (PyProof.Rows.callWith_type1 (thn (ha.run pos pins s σ H _ I h) fun us s1 ⟨vs, H1, I1, rr, k1, k2, xs, ys, ex, a1, a2, q⟩ => ?_) hs hpl))
  subst ex
  cases rr with
  | cons r rr =>
    cases rr with
    | cons r' rr =>
      cases rr
      obtain ⟨o1, B1, b1, t1, g1, l1⟩ := Kd.begins I1 k1 a1 r
      obtain ⟨o2, B2, b2, t2, g2, l2⟩ := Kd.begins I1 k2 a2 r'
      refine zip_begins2 b1 b2 t1 t2 fun h' hz hTI hTO hx hy hsz hk => wpAny_pyIter_zip hz ?_
      have I2 : Inv X pins σ H1 { s1 with heap := h' } := I1.kept (t' := s1.toks) hk
      refine ⟨s1.heap.objs.size + 4, [s1.heap.objs.size + 4, s1.heap.objs.size + 2, s1.heap.objs.size + 3, s1.heap.objs.size, s1.heap.objs.size + 1], _, _, H1, rfl, I2, turn_zq k1 k2 (min xs.length ys.length) s1.heap.objs.size l1 l2, ⟨Nat.zero_le _, hz, hTI, ⟨_, _, hTO⟩, g1 _ _ hx, g2 _ _ hy⟩, fun b hb => ?_, q⟩
      have : b = s1.heap.objs.size + 4 ∨ b = s1.heap.objs.size + 2 ∨ b = s1.heap.objs.size + 3 ∨ b = s1.heap.objs.size ∨ b = s1.heap.objs.size + 1 := by simpa using hb
      have hle : s1.heap.objs.size ≤ b := by rcases this with z | z | z | z | z <;> rw [z] <;> simp
      exact I1.fpOk hle (I1.hok.fresh hle)
theorem pi_eq (hg : Gl X "enumerate") (hm : X.mg "enumerate" = none) (ha : PA X [e] ta) (hs : starEach [e] X.env = [(false, eval e X.env)] := by rfl) :
    PI X (.Tuple elts kk tpos) (.Call (.Name "enumerate" p) [e] [] pos) (iEq X.K ta) := by
  refine ⟨fun pins s σ H R I h => ?_⟩
  refine Call_ (ld_blt I hg hm boot_enumerate (PyProof.Rows.callWith_type1 (thn (ha.run pos pins s σ H _ I h) fun us s1 ⟨vs, H1, I1, rr, k, xs, ex, a1, q⟩ => ?_) hs rfl))
  subst ex
  cases rr with
  | cons r rr =>
    cases rr
    obtain ⟨o1, B1, b1, t1, g1, l1⟩ := Kd.begins I1 k a1 r
    refine call_enum1 b1 t1 fun h' hz hx hk => wpAny_pyIter_enum hz ?_
    have I2 : Inv X pins σ H1 { s1 with heap := h' } := I1.kept (t' := s1.toks) hk
    refine ⟨s1.heap.objs.size + 1, [s1.heap.objs.size + 1, s1.heap.objs.size], _, _, H1, rfl, I2, turn_eq k 0 xs.length s1.heap.objs.size l1, ⟨Nat.zero_le _, ⟨_, hz⟩, g1 _ _ hx⟩, fun b hb => ?_, q⟩
    have : b = s1.heap.objs.size + 1 ∨ b = s1.heap.objs.size := by simpa using hb
    have hle : s1.heap.objs.size ≤ b := by rcases this with z | z <;> rw [z] <;> simp
    exact I1.fpOk hle (I1.hok.fresh hle)
end

/-! ### as functions -/
/-- what is not written, as its items -/
def stOf : D → Option (List D)
  | .tup l => some l
  | .fl l => some l
  | .str s => some (s.map fun c => .str [c])
  | _ => none
def qOf (h : IH) : D → Option (List D)
  | .ref n => lstOf h (.ref n)
  | d => stOf d
def zipQ (a b : D) (n : Nat) (h : IH) : Option (List D) := match qOf h a, qOf h b with
  | some l, some l' => if min l.length l'.length = n then some (List.zipWith (fun x y => .tup [x, y]) l l') else none
  | _, _ => none
def enumQ (a : D) (n : Nat) (h : IH) : Option (List D) := match qOf h a with
  | some l => if l.length = n then some (l.mapIdx fun i x => .tup [.int (i : Nat), x]) else none
  | _ => none
def iZip (m : MA) : MI := fun env h => (m env h).bind fun xs h1 => match xs with
  | [a, b] => match stOf a, stOf b with
    | some l, some l' => .ok (.st (List.zipWith (fun x y => .tup [x, y]) l l')) h1
    | _, _ => match qOf h1 a, qOf h1 b with
      | some l, some l' => .ok (.dy (zipQ a b (min l.length l'.length))) h1
      | _, _ => .no
  | _ => .no
def iEnum (m : MA) : MI := fun env h => (m env h).bind fun xs h1 => match xs with
  | [a] => match stOf a with
    | some l => .ok (.st (l.mapIdx fun i x => .tup [.int (i : Nat), x])) h1
    | _ => match qOf h1 a with
      | some l => .ok (.dy (enumQ a l.length)) h1
      | none => .no
  | _ => .no
def kdOf : D → V → Kd
  | .tup _, .ref a => .tp a
  | .str _, .str s => .tx s
  | _, .ref a => .ls a
  | _, _ => .ls 0
theorem q_kd {G : Cf} {et : List Addr} {H : Hp} {h : IH} {d : D} {l : List D} {v : V} (R : HRel G et h H) (e : qOf h d = some l) (r : Den G et H d v) : v = (kdOf d v).v ∧ ∃ xs : List V, DenL G et H l xs ∧ (kdOf d v).At G.K H xs := by
  cases d with
  | ref n =>
    obtain ⟨a, vs, rfl, h2, h3⟩ := lst_ok R (x := .ref n) e r
    exact ⟨rfl, vs, h3, h2⟩
  | tup l' =>
    cases e
    obtain ⟨a, vs, rfl, h2, h3⟩ := den_tup.mp r
    exact ⟨rfl, vs, h3, TpT.sq h2⟩
  | fl l' =>
    cases e
    obtain ⟨a, vs, rfl, h2, h3⟩ := den_fl.mp r
    exact ⟨rfl, vs, h3, h2.sq⟩
  | str s =>
    cases e
    rw [den_str.mp r]
    refine ⟨rfl, _, ?_, rfl⟩
    have : (strV s).cps.toList.map (fun c => V.str ⟨#[c]⟩) = ((s.map fun c => [c]).map strV).map V.str := by simp [strV]
    rw [this, show (s.map fun c => D.str [c]) = (s.map fun c => [c]).map D.str by simp]
    exact DenL.ofStrs
  | _ => cases e
section
variable {X : Cx} {G : Cf} {W : WX} {e e2 : Expr} {mt : MA} {pos p tpos : Pos} {elts : List Expr} {kk : Nat}
theorem stOf_kd {et : List Addr} {H : Hp} {d : D} {l : List D} {v : V} (e : stOf d = some l) (r : Den G et H d v) : ∃ (k : Kd) (xs : List V), v = k.v ∧ DenL G et H l xs ∧ ∀ H', Ext H H' → k.At G.K H' xs := by
  cases d with
  | tup l' =>
    cases e
    obtain ⟨a, vs, rfl, h2, h3⟩ := den_tup.mp r
    exact ⟨.tp a, vs, rfl, h3, fun H' x => x.sqT h2⟩
  | fl l' =>
    cases e
    obtain ⟨a, vs, rfl, h2, h3⟩ := den_fl.mp r
    exact ⟨.ls a, vs, rfl, h3, fun H' x => (h2.ext x).sq⟩
  | str s =>
    cases e
    refine ⟨.tx (strV s), _, den_str.mp r, ?_, fun H' x => rfl⟩
    have : (strV s).cps.toList.map (fun c => V.str ⟨#[c]⟩) = ((s.map fun c => [c]).map strV).map V.str := by simp [strV]
    rw [this, show (s.map fun c => D.str [c]) = (s.map fun c => [c]).map D.str by simp]
    exact DenL.ofStrs
  | _ => cases e
theorem den_pair {et : List Addr} {H : Hp} {h : IH} {a b : D} {x y : V} {T : Addr} (hT : H T = none) (ra : Den G et H a x) (rb : Den G et H b y) : Den G et (upd H T (.tup [x, y])) (.tup [a, b]) (.ref T) := by
  have ex : Ext H (upd H T (.tup [x, y])) := Ext.new hT
  exact den_tup.mpr ⟨T, [x, y], rfl, upd_same .., denL_cons.mpr ⟨x, [y], rfl, ra.mono List.prefix_rfl ex, denL_cons.mpr ⟨y, [], rfl, rb.mono List.prefix_rfl ex, denL_nil.mpr rfl⟩⟩⟩
theorem mi_zip (hK : X.K = G.K) (ha : PA X [e, e2] (tA G W mt)) (hm : X.mg "zip" = none) (hg : Gl X "zip" := by rfl) (hs : starEach [e, e2] X.env = (false, eval e X.env) :: starEach [e2] X.env := by rfl) (hpl : (backTo pos (starEach [e2] X.env)).any (·.1) = false := by rfl) :
    PI X (.Tuple elts kk tpos) (.Call (.Name "zip" p) [e, e2] [] pos) (tI G W (iZip mt)) := PI.imp (pi_zq hg hm ha hs hpl) fun σ H R ⟨et, env, h, hE, hH, hP⟩ => by
  rw [hK]
  refine ⟨et, env, h, hE, hH, (Pst.of_bind hP).imp fun et1 H1 h1 xs p e hr q vs hv => ?_⟩
  split at q
  · rename_i a b
    obtain ⟨v, w, rfl, ra, rb⟩ := list2 hv
    have dyn : ∀ l l', qOf h1 a = some l → qOf h1 b = some l' → Pst G et1 H1 (.ok (Src.dy (zipQ a b (min l.length l'.length))) h1) (fun et' H' _ src => ∀ J, JRel G et' H' src J → R J H') (fun c d H' => W c d σ H') → ∃ k1 k2 xs ys, [v, w] = [Kd.v k1, Kd.v k2] ∧ k1.At G.K H1 xs ∧ k2.At G.K H1 ys ∧ R (Itq G.K k1 k2 (min xs.length ys.length)) H1 := fun l l' ea eb q => by
      obtain ⟨v1, xs, d1, a1⟩ := q_kd hr ea ra
      obtain ⟨v2, ys, d2, a2⟩ := q_kd hr eb rb
      have n1 := d1.len
      have n2 := d2.len
      refine ⟨kdOf a v, kdOf b w, xs, ys, by rw [← v1, ← v2], a1, a2, q.here hr _ fun et2 H2 h2 p2 e2 R2 ok i => ?_⟩
      have ok' : (zipQ a b (min l.length l'.length) h2).isSome = true := ok
      obtain ⟨zs, ez⟩ := Option.isSome_iff_exists.mp ok'
      show (match (zipQ a b (min l.length l'.length) h2).bind fun xs => xs[i]? with | some d => _ | none => _)
      rw [ez]
      unfold zipQ at ez
      cases qa : qOf h2 a with
      | none => rw [qa] at ez; cases ez
      | some m =>
        cases qb : qOf h2 b with
        | none => rw [qa, qb] at ez; cases ez
        | some m' =>
          rw [qa, qb] at ez
          dsimp only at ez
          split at ez
          · rename_i hn
            cases ez
            obtain ⟨_, xs2, f1, b1⟩ := q_kd R2 qa (ra.mono p2 e2)
            obtain ⟨_, ys2, f2, b2⟩ := q_kd R2 qb (rb.mono p2 e2)
            have n3 := f1.len
            have n4 := f2.len
            show (match (List.zipWith (fun x y => D.tup [x, y]) m m')[i]? with | some d => _ | none => _)
            rw [List.getElem?_zipWith]
            cases e3 : m[i]? with
            | none =>
              have := List.getElem?_eq_none_iff.mp e3
              exact ⟨by omega, xs2, ys2, b1, b2, by omega⟩
            | some d =>
              cases e4 : m'[i]? with
              | none =>
                have := List.getElem?_eq_none_iff.mp e4
                exact ⟨by omega, xs2, ys2, b1, b2, by omega⟩
              | some d' =>
                have m1 := (List.getElem?_eq_some_iff.mp e3).1
                have m2 := (List.getElem?_eq_some_iff.mp e4).1
                refine ⟨⟨by omega, xs2, ys2, b1, b2, by omega⟩, fun z H' ⟨T, x, y, hz, hT, hH', hx, hy⟩ => ?_⟩
                subst hz hH'
                obtain ⟨v1, w1, r1⟩ := f1.get e3
                obtain ⟨v2, w2, r2⟩ := f2.get e4
                have x1 := hx _ b1
                have x2 := hy _ b2
                rw [w1] at x1
                rw [w2] at x2
                cases x1
                cases x2
                exact ⟨Ext.new hT, R2.new hT, den_pair (h := h2) hT r1 r2⟩
          · cases ez
    have alt : Pst G et1 H1 (match qOf h1 a, qOf h1 b with
      | some l, some l' => NR.R.ok (Src.dy (zipQ a b (min l.length l'.length))) h1
      | _, _ => .no) (fun et' H' _ src => ∀ J, JRel G et' H' src J → R J H') (fun c d H' => W c d σ H') → ∃ k1 k2 xs ys, [v, w] = [Kd.v k1, Kd.v k2] ∧ k1.At G.K H1 xs ∧ k2.At G.K H1 ys ∧ R (Itq G.K k1 k2 (min xs.length ys.length)) H1 := fun q => by
      cases qa : qOf h1 a with
      | none => rw [qa] at q; exact q.elim
      | some l =>
        cases qb : qOf h1 b with
        | none => rw [qa, qb] at q; exact q.elim
        | some l' => rw [qa, qb] at q; exact dyn l l' qa qb q
    cases ea : stOf a with
    | none => rw [ea] at q; exact alt q
    | some l =>
      cases eb : stOf b with
      | none => rw [ea, eb] at q; exact alt q
      | some l' =>
        rw [ea, eb] at q
        obtain ⟨k1, xs, rfl, d1, st1⟩ := stOf_kd ea ra
        obtain ⟨k2, ys, rfl, d2, st2⟩ := stOf_kd eb rb
        refine ⟨k1, k2, xs, ys, rfl, st1 _ (Ext.refl _), st2 _ (Ext.refl _), q.here hr _ (jrel_st fun et2 H2 h2 p2 e2 R2 i => ?_)⟩
        have n1 := d1.len
        have n2 := d2.len
        rw [List.getElem?_zipWith]
        cases e3 : l[i]? with
        | none =>
          have := List.getElem?_eq_none_iff.mp e3
          exact ⟨by omega, xs, ys, st1 _ e2, st2 _ e2, rfl⟩
        | some d =>
          cases e4 : l'[i]? with
          | none =>
            have := List.getElem?_eq_none_iff.mp e4
            exact ⟨by omega, xs, ys, st1 _ e2, st2 _ e2, rfl⟩
          | some d' =>
            have m1 := (List.getElem?_eq_some_iff.mp e3).1
            have m2 := (List.getElem?_eq_some_iff.mp e4).1
            refine ⟨⟨by omega, xs, ys, st1 _ e2, st2 _ e2, rfl⟩, fun z H' ⟨T, x, y, hz, hT, hH', hx, hy⟩ => ?_⟩
            subst hz hH'
            obtain ⟨v1, w1, r1⟩ := d1.get e3
            obtain ⟨v2, w2, r2⟩ := d2.get e4
            have x1 := hx _ (st1 _ e2)
            have x2 := hy _ (st2 _ e2)
            rw [w1] at x1
            rw [w2] at x2
            cases x1
            cases x2
            exact ⟨Ext.new hT, R2.new hT, den_pair (h := h2) hT (r1.mono p2 e2) (r2.mono p2 e2)⟩
  · exact q.elim
theorem mi_enum (hK : X.K = G.K) (ha : PA X [e] (tA G W mt)) (hm : X.mg "enumerate" = none) (hg : Gl X "enumerate" := by rfl) (hs : starEach [e] X.env = [(false, eval e X.env)] := by rfl) :
    PI X (.Tuple elts kk tpos) (.Call (.Name "enumerate" p) [e] [] pos) (tI G W (iEnum mt)) := PI.imp (pi_eq hg hm ha hs) fun σ H R ⟨et, env, h, hE, hH, hP⟩ => by
  rw [hK]
  refine ⟨et, env, h, hE, hH, (Pst.of_bind hP).imp fun et1 H1 h1 xs p e hr q vs hv => ?_⟩
  split at q
  · rename_i a
    obtain ⟨v, rfl, ra⟩ := list1 hv
    cases ea : stOf a with
    | none =>
      rw [ea] at q
      cases qa : qOf h1 a with
      | none => rw [qa] at q; exact q.elim
      | some l =>
        rw [qa] at q
        obtain ⟨v1, xs, d1, a1⟩ := q_kd hr qa ra
        have n1 := d1.len
        refine ⟨kdOf a v, xs, by rw [← v1], a1, q.here hr _ fun et2 H2 h2 p2 e2 R2 ok i => ?_⟩
        have ok' : (enumQ a l.length h2).isSome = true := ok
        obtain ⟨zs, ez⟩ := Option.isSome_iff_exists.mp ok'
        show (match (enumQ a l.length h2).bind fun xs => xs[i]? with | some d => _ | none => _)
        rw [ez]
        unfold enumQ at ez
        cases qb : qOf h2 a with
        | none => rw [qb] at ez; cases ez
        | some m =>
          rw [qb] at ez
          dsimp only at ez
          split at ez
          · rename_i hn
            cases ez
            obtain ⟨_, xs2, f1, b1⟩ := q_kd R2 qb (ra.mono p2 e2)
            have n3 := f1.len
            show (match (m.mapIdx fun i x => D.tup [.int (i : Nat), x])[i]? with | some d => _ | none => _)
            rw [List.getElem?_mapIdx]
            cases e3 : m[i]? with
            | none =>
              have := List.getElem?_eq_none_iff.mp e3
              exact ⟨by omega, xs2, b1, by omega⟩
            | some d =>
              have m1 := (List.getElem?_eq_some_iff.mp e3).1
              refine ⟨⟨by omega, xs2, b1, by omega⟩, fun z H' ⟨T, x, hz, hT, hH', hx⟩ => ?_⟩
              subst hz hH'
              obtain ⟨v1, w1, r1⟩ := f1.get e3
              have x1 := hx _ b1
              rw [w1] at x1
              cases x1
              exact ⟨Ext.new hT, R2.new hT, den_pair (h := h2) hT (by simp) r1⟩
          · cases ez
    | some l =>
      rw [ea] at q
      obtain ⟨k1, xs, rfl, d1, st1⟩ := stOf_kd ea ra
      refine ⟨k1, xs, rfl, st1 _ (Ext.refl _), q.here hr _ (jrel_st fun et2 H2 h2 p2 e2 R2 i => ?_)⟩
      have n1 := d1.len
      rw [List.getElem?_mapIdx]
      cases e3 : l[i]? with
      | none =>
        have := List.getElem?_eq_none_iff.mp e3
        exact ⟨by omega, xs, st1 _ e2, rfl⟩
      | some d =>
        have m1 := (List.getElem?_eq_some_iff.mp e3).1
        refine ⟨⟨by omega, xs, st1 _ e2, rfl⟩, fun z H' ⟨T, x, hz, hT, hH', hx⟩ => ?_⟩
        subst hz hH'
        obtain ⟨v1, w1, r1⟩ := d1.get e3
        have x1 := hx _ (st1 _ e2)
        rw [w1] at x1
        cases x1
        exact ⟨Ext.new hT, R2.new hT, den_pair (h := h2) hT (by simp) (r1.mono p2 e2)⟩
  · exact q.elim
end
end NR

set_option Elab.async false
set_option linter.all false
set_option maxRecDepth 100000
set_option maxHeartbeats 1000000
/-! A def that calls itself. -/
namespace NR
open PySem PySem.Spec PyProof.Rows L2
/-- nothing is told -/
def mNo : MF := fun _ _ => .no
theorem fnG_no {P : Program} {w : World} {K : PySem.W.Frag} {mg : Str → Option Value} {base : Heap} {G : Cf} {x : Str} {st : Stmt} {ps : List Str} {k n : Nat} (d : DefAt K mg x st ps) (hn : ps.length = n) : FnG P w K mg base G x k n mNo :=
  d.fn fun f fd F => ⟨fun vs H Q E h => h.1.trans hn.symm, fun A outer s H args us vs Q E hr he hb hv hs => by
    obtain ⟨_, et, ds, h, _, _, hP⟩ := hs
    exact hP.elim⟩
end NR

set_option Elab.async false
set_option linter.all false
set_option maxRecDepth 100000
set_option maxHeartbeats 1000000
/-! Dicts: keys ints and texts, or tuples of such. -/
namespace NR
open PySem PySem.Spec PyProof.Rows L2
def keyT? : D → Option (List DKey)
  | .tup l => allM keyD? l
  | _ => none
def valKD {κ : Type} [DecidableEq κ] (kvs : List (κ × D)) (k : κ) : Option D := (kvs.find? fun p => decide (p.1 = k)).map (·.2)
/-- what a dict holds at a key -/
def dGet? (h : IH) (o i : D) : Option (Option D) := match o with
  | .ref n => match h[n]? with
    | some (.dk kvs) => (keyD? i).map (valKD kvs)
    | some (.dt kvs) => (keyT? i).map (valKD kvs)
    | _ => none
  | .fd ks l => (keyD? i).map (valKD (ks.zip l))
  | _ => none
theorem key_den {G : Cf} {et : List Addr} {H : Hp} {d : D} {v : V} {k : DKey} (e : keyD? d = some k) (r : Den G et H d v) : v = kV (keyV k) := by
  unfold keyD? at e
  split at e
  · cases e; exact den_int.mp r
  · cases e; exact den_str.mp r
  · cases e
theorem keys_den {G : Cf} {et : List Addr} {H : Hp} : ∀ {l : List D} {vs : List V} {ks : List DKey}, allM keyD? l = some ks → DenL G et H l vs → vs = (ks.map keyV).map kV
  | [], vs, ks, e, r => by
    simp only [allM, Option.some.injEq] at e
    subst e
    exact denL_nil.mp r
  | d :: l, vs, ks, e, r => by
    obtain ⟨a, as, e1, e2, rfl⟩ := allM_cons e
    obtain ⟨v, ws, rfl, r1, r2⟩ := denL_cons.mp r
    rw [key_den e1 r1, keys_den e2 r2]
    rfl
theorem keyVs_inj : ∀ {a b : List DKey}, a.map keyV = b.map keyV → a = b
  | [], [], _ => rfl
  | [], _ :: _, h => by simp at h
  | _ :: _, [], h => by simp at h
  | x :: a, y :: b, h => by
    simp only [List.map_cons, List.cons.injEq] at h
    rw [keyV_inj h.1, keyVs_inj h.2]
def OptR (G : Cf) (et : List Addr) (H : Hp) : Option D → Option V → Prop
  | some d, some v => Den G et H d v
  | none, none => True
  | _, _ => False
theorem denK_val {κ κ' : Type} [DecidableEq κ] [DecidableEq κ'] {f : κ → κ'} (inj : ∀ a b, f a = f b → a = b) {G : Cf} {et : List Addr} {H : Hp} (k : κ) : ∀ {kvs : List (κ × D)} {ws : List (κ' × V)}, DenK f G et H kvs ws →
    OptR G et H (valKD kvs k) (valV ws (f k))
  | [], [], h => trivial
  | [], _ :: _, h => by have := h.1; simp at this
  | _ :: _, [], h => by have := h.1; simp at this
  | p :: kvs, q :: ws, h => by
    obtain ⟨h1, h2⟩ := h
    simp only [List.map_cons, List.cons.injEq] at h1
    simp only [List.map_cons] at h2
    obtain ⟨v0, ws0, e0, h3, h4⟩ := denL_cons.mp h2
    simp only [List.cons.injEq] at e0
    obtain ⟨rfl, rfl⟩ := e0
    have ih := denK_val inj (G := G) (et := et) (H := H) k (kvs := kvs) (ws := ws) ⟨h1.2, h4⟩
    by_cases e : p.1 = k
    · have e' : q.1 = f k := by rw [h1.1, e]
      have a1 : valKD (p :: kvs) k = some p.2 := by simp [valKD, e]
      rw [a1, valV_pos e']
      exact h3
    · have e' : ¬ q.1 = f k := fun z => e (inj _ _ (h1.1.symm.trans z))
      have a1 : valKD (p :: kvs) k = valKD kvs k := by simp [valKD, e]
      rw [a1, valV_neg e']
      exact ih
theorem denK_zip {G : Cf} {et : List Addr} {H : Hp} : ∀ {ks : List DKey} {l : List D} {ws : List (Key × V)}, ws.map (·.1) = ks.map keyV → DenL G et H l (ws.map (·.2)) → DenK keyV G et H (ks.zip l) ws
  | [], l, [], h1, h2 => by
    have := h2.len
    have : l = [] := List.eq_nil_of_length_eq_zero (by simpa using this.symm)
    subst this
    exact ⟨rfl, by simp⟩
  | [], _, _ :: _, h1, _ => by simp at h1
  | _ :: _, _, [], h1, _ => by simp at h1
  | k :: ks, l, w :: ws, h1, h2 => by
    simp only [List.map_cons, List.cons.injEq] at h1 h2
    cases l with
    | nil => have := h2.len; simp at this
    | cons d l =>
      obtain ⟨v0, ws0, e0, h3, h4⟩ := denL_cons.mp h2
      simp only [List.cons.injEq] at e0
      obtain ⟨e1, e2⟩ := e0
      have ih := denK_zip h1.2 (e2 ▸ h4)
      refine ⟨by simp [h1.1, ih.1], ?_⟩
      simp only [List.zip_cons_cons, List.map_cons]
      exact denL_cons.mpr ⟨w.2, _, rfl, by rw [e1]; exact h3, ih.2⟩
section
variable {G : Cf} {et : List Addr} {H : Hp} {h : IH}
theorem dget_of (R : HRel G et h H) {o i : D} {r : Option D} {vo vi : V} (e : dGet? h o i = some r) (ro : Den G et H o vo) (ri : Den G et H i vi) : ∃ a u, vo = .ref a ∧ DGet H a vi u ∧ OptR G et H r u := by
  cases o with
  | ref n =>
    obtain ⟨a, h1, rfl⟩ := den_ref.mp ro
    simp only [dGet?] at e
    split at e
    · rename_i kvs hc
      obtain ⟨ws, c1, c2⟩ := R.cell n _ a hc h1
      simp only [Option.map_eq_some_iff] at e
      obtain ⟨k, e1, rfl⟩ := e
      rw [key_den e1 ri]
      exact ⟨a, _, rfl, DGet.k c1, denK_val (fun a b => keyV_inj) k c2⟩
    · rename_i kvs hc
      obtain ⟨ws, c1, c2⟩ := R.cell n _ a hc h1
      simp only [Option.map_eq_some_iff] at e
      obtain ⟨k, e1, rfl⟩ := e
      cases i with
      | tup l =>
        obtain ⟨b, vs, rfl, t1, t2⟩ := den_tup.mp ri
        have ek := keys_den (show allM keyD? l = some k from e1) t2
        subst ek
        exact ⟨a, _, rfl, DGet.t c1 t1, denK_val (fun a b => keyVs_inj) k c2⟩
      | _ => cases e1
    · cases e
  | fd ks l =>
    obtain ⟨a, ws, rfl, ⟨oo, c1⟩, c2, c3⟩ := den_fd.mp ro
    simp only [dGet?, Option.map_eq_some_iff] at e
    obtain ⟨k, e1, rfl⟩ := e
    rw [key_den e1 ri]
    exact ⟨a, _, rfl, .inl ⟨ws, _, .inr ⟨oo, c1⟩, rfl, rfl⟩, denK_val (fun a b => keyV_inj) k (denK_zip c2 c3)⟩
  | _ => cases e
end
/-- k in d -/
def dDIn (neg : Bool) : D → D → IH → R D := fun x y h => match dGet? h y x with
  | some r => .ok (.bl (if neg then !r.isSome else r.isSome)) h
  | none => .no
/-- d[k] -/
def dDGet : D → D → IH → R D := fun o i h => match dGet? h o i with
  | some (some d) => .ok d h
  | _ => .no
def rDIn (neg : Bool) : R2 := fun x y H Q => ∃ a o, y = .ref a ∧ DGet H a x o ∧ Q (.bl (if neg then !o.isSome else o.isSome)) H
section
variable {X : Cx} {G : Cf} {W : WX}
theorem op_dIn (hu : X.A.units + 64 < cLine) : OpR X (compareOp .In) (rDIn false) := by
  intro pins s σ H x y v u Q I rx ry h
  obtain ⟨a, o, rfl, g, q⟩ := h
  obtain rfl : u = Value.ref a := ry
  exact d_in (by omega) I g rx fun s3 I3 => ⟨.bl o.isSome, H, I3, rfl, q⟩
theorem op_dNotIn (hu : X.A.units + 64 < cLine) : OpR X (compareOp .NotIn) (rDIn true) := by
  intro pins s σ H x y v u Q I rx ry h
  obtain ⟨a, o, rfl, g, q⟩ := h
  obtain rfl : u = Value.ref a := ry
  exact d_notIn (by omega) I g rx fun s3 I3 => ⟨.bl (!o.isSome), H, I3, rfl, q⟩
theorem dDIn_ok (neg : Bool) : OpS G (rDIn neg) (dDIn neg) := by
  intro et H h x y v w W Q rx ry R p
  unfold dDIn at p
  split at p
  · rename_i r e
    obtain ⟨a, u, rfl, g, hr⟩ := dget_of R e ry rx
    have es : u.isSome = r.isSome := by
      cases u <;> cases r <;> first | rfl | exact hr.elim
    refine ⟨a, u, rfl, g, ?_⟩
    rw [es]
    exact p.here R _ (by simp)
  · exact p.elim
theorem me_dget {a b : Expr} {ma mb : ME} {pos : Pos} (hu : X.A.units + 64 < cLine) (ha : PE X a (tE G W ma)) (hb : PE X b (tE G W mb)) (hs : NoSl b := by exact fun _ _ => rfl) : PE X (.Subscript a b pos) (tE G W (mOp dDGet ma mb)) :=
  PE.imp (pe_dget (by omega) ha hb hs) fun σ H Q ⟨et, env, h, hE, hH, hP⟩ => by
    refine ⟨et, env, h, hE, hH, (Pst.of_bind hP).imp fun et1 H1 h1 x p e hr q v hv => ?_⟩
    refine ⟨et1, env, h1, hE.mono p e, hr, (Pst.of_bind q).imp fun et2 H2 h2 y p2 e2 hr2 q2 w hw => ?_⟩
    unfold dDGet at q2
    split at q2
    · rename_i d ed
      obtain ⟨a, u, rfl, g, hd⟩ := dget_of hr2 ed (hv.mono p2 e2) hw
      cases u with
      | none => exact hd.elim
      | some z => exact ⟨a, z, rfl, g, q2.here hr2 _ hd⟩
    · exact q2.elim
/-- d.get(k) -/
def dDGet1 : D → D → IH → R D := fun o i h => match dGet? h o i with
  | some r => .ok (r.getD .non) h
  | none => .no
def isDD (h : IH) : D → Bool
  | .ref n => match h[n]? with
    | some (.dk _) => true
    | some (.dt _) => true
    | _ => false
  | _ => false
theorem isDD_ok {et : List Addr} {H : Hp} {h : IH} (R : HRel G et h H) {d : D} {v : V} (e : isDD h d = true) (r : Den G et H d v) : ∃ a, v = .ref a ∧ IsD H a := by
  cases d with
  | ref n =>
    obtain ⟨a, h1, rfl⟩ := den_ref.mp r
    simp only [isDD] at e
    split at e
    · rename_i kvs hc
      obtain ⟨ws, c1, c2⟩ := R.cell n _ a hc h1
      exact ⟨a, rfl, .inl ⟨ws, .inl c1⟩⟩
    · rename_i kvs hc
      obtain ⟨ws, c1, c2⟩ := R.cell n _ a hc h1
      exact ⟨a, rfl, .inr ⟨ws, .inl c1⟩⟩
    · cases e
  | _ => cases e
def mDGet1 (mo mi : ME) : ME := fun env h => (mo env h).bind fun x h1 => if isDD h1 x = true then (mi env h1).bind fun y h2 => dDGet1 x y h2 else .no
theorem me_dget1 {o e : Expr} {mo mi : ME} {apos cpos : Pos} (hu : X.A.units + 64 < cLine) (ho : PE X o (tE G W mo)) (he : PE X e (tE G W mi)) (m : M1 X o "get" apos e cpos := by exact ⟨rfl, rfl, rfl, rfl⟩) : PE X (.Call (.Attribute o "get" apos) [e] [] cpos) (tE G W (mDGet1 mo mi)) :=
  PE.imp (pe_dget1 (by omega) ho he m) fun σ H Q ⟨et, env, h, hE, hH, hP⟩ => by
    refine ⟨et, env, h, hE, hH, (Pst.of_bind hP).imp fun et1 H1 h1 x p e hr q v hv => ?_⟩
    split at q
    · rename_i c
      obtain ⟨a, rfl, hd⟩ := isDD_ok hr c hv
      refine ⟨a, rfl, hd, et1, env, h1, hE.mono p e, hr, (Pst.of_bind q).imp fun et2 H2 h2 y p2 e2 hr2 q2 w hw => ?_⟩
      unfold dDGet1 at q2
      split at q2
      · rename_i r ed
        obtain ⟨b, u, eb, g, hd⟩ := dget_of hr2 ed (hv.mono p2 e2) hw
        cases eb
        refine ⟨u, g, q2.here hr2 _ ?_⟩
        cases u <;> cases r <;> first | exact hd.elim | skip
        · simp
        · exact hd
      · exact q2.elim
    · exact q.elim
/-- d[k] = v -/
def putDD (o i v : D) (h : IH) : Option IH := match o with
  | .ref n => match h[n]? with
    | some (.dk kvs) => match keyD? i with
      | some k => if kvs.length < 10000000 then some (h.set n (.dk (putKD kvs k v))) else none
      | none => none
    | some (.dt kvs) => match keyT? i with
      | some k => if kvs.length < 10000000 then some (h.set n (.dt (putKD kvs k v))) else none
      | none => none
    | _ => none
  | _ => none
def rSetD : V → V → V → Hp → (Hp → Prop) → Prop := fun o i v H Q => ∃ a H', o = .ref a ∧ DPut H a i v H' ∧ Q H'
theorem set_dict (hu : X.A.units + 64 < cLine) : PSet X rSetD := by
  intro pins s σ H o i v ov iv u Q I ro ri rv h
  obtain ⟨a, H', rfl, g, q⟩ := h
  obtain rfl : ov = Value.ref a := ro
  exact d_setItem (by omega) I g ri rv fun s4 I4 => ⟨H', I4, q⟩
theorem putDD_ok {et : List Addr} {H : Hp} {h h' : IH} (R : HRel G et h H) {o i v : D} {vo vi vv : V} {Q : Hp → Prop} (e : putDD o i v h = some h') (ro : Den G et H o vo) (ri : Den G et H i vi) (rv : Den G et H v vv) (q : ∀ H', Ext H H' → HRel G et h' H' → Q H') : rSetD vo vi vv H Q := by
  cases o with
  | ref n =>
    obtain ⟨a, h1, rfl⟩ := den_ref.mp ro
    simp only [putDD] at e
    split at e
    · rename_i kvs hc
      split at e
      · rename_i k ek
        split at e
        · rename_i l
          cases e
          obtain ⟨ws, c1, c2⟩ := R.cell n _ a hc h1
          rw [key_den ek ri]
          have lw : ws.length = kvs.length := by have := congrArg List.length c2.1; simpa using this
          have ex : Ext H (upd H a (.dK (putK ws (keyV k) vv))) := Ext.mut c1 True.intro
          refine ⟨a, _, rfl, DPut.k c1 (by rw [lw, sizeLine_eq]; omega), q _ ex (R.set hc h1 rfl c1 True.intro ⟨_, upd_same, (denK_put (fun a b => keyV_inj) rv c2).mono List.prefix_rfl ex⟩)⟩
        · cases e
      · cases e
    · rename_i kvs hc
      split at e
      · rename_i k ek
        split at e
        · rename_i l
          cases e
          obtain ⟨ws, c1, c2⟩ := R.cell n _ a hc h1
          cases i with
          | tup t =>
            obtain ⟨b, vs, rfl, t1, t2⟩ := den_tup.mp ri
            have ek := keys_den (show allM keyD? t = some k from ek) t2
            subst ek
            have lw : ws.length = kvs.length := by have := congrArg List.length c2.1; simpa using this
            have ex : Ext H (upd H a (.dT (putK ws (k.map keyV) vv))) := Ext.mut c1 True.intro
            refine ⟨a, _, rfl, DPut.t c1 t1 (by rw [lw, sizeLine_eq]; omega), q _ ex (R.set hc h1 rfl c1 True.intro ⟨_, upd_same, (denK_put (fun a b => keyVs_inj) rv c2).mono List.prefix_rfl ex⟩)⟩
          | _ => cases ek
        · cases e
      · cases e
    · cases e
  | _ => cases e
def msSetD (mo mi me : ME) : MS := fun env h => (me env h).bindS env fun v h1 => (mo env h1).bindS env fun o h2 => (mi env h2).bindS env fun i h3 => match putDD o i v h3 with
  | some h4 => .nx env h4
  | none => .no
theorem ms_setD {e o i : Expr} {me mo mi : ME} {pos pos' : Pos} (hu : X.A.units + 64 < cLine) (he : PE X e (tE G W me)) (ho : PE X o (tE G W mo)) (hi : PE X i (tE G W mi)) (ha : ∀ v, assign (.Subscript o i pos') X.env v = (do
      let ov ← holding [v] (eval o X.env)
      let iv ← holding [v, ov] (eval i X.env)
      standAt pos'
      holding [v, ov, iv] (setItem ov iv v)
      release [v, ov, iv] []) := by intro _; rfl) (hs : swapsWithSole [.Subscript o i pos'] e pos.line X.env = pure false := by rfl) (hw : swappedStores [.Subscript o i pos'] e X.env = pure none := by rfl)
    (h1 : (assignEach [.Subscript o i pos'] X.env).map (·.2) = [assign (.Subscript o i pos') X.env] := by rfl) : PS X (.Assign [.Subscript o i pos'] e pos) (tS G W (msSetD mo mi me)) :=
  PS.imp (ps_asg he (pg_sub ho hi (set_dict hu) ha) hs hw h1) fun D σ H ⟨et, env, h, hE, hH, hP⟩ => by
    refine ⟨et, env, h, hE, hH, (PstS.of_bind hE hP).imp fun et1 H1 h1 v p e hr q vv hv => ?_⟩
    have hE1 := hE.mono p e
    refine ⟨et1, env, h1, hE1, hr, (PstS.of_bind hE1 q).imp fun et2 H2 h2 o p2 e2 hr2 q2 vo ho => ?_⟩
    have hE2 := hE1.mono p2 e2
    refine ⟨et2, env, h2, hE2, hr2, (PstS.of_bind hE2 q2).imp fun et3 H3 h3 i p3 e3 hr3 q3 vi hi => ?_⟩
    have hE3 := hE2.mono p3 e3
    split at q3
    · rename_i h4 e4
      exact putDD_ok hr3 e4 (ho.mono p3 e3) hi ((hv.mono p2 e2).mono p3 e3) fun H' ex hr4 => q3 et3 H' σ List.prefix_rfl ex hr4 (hE3.mono List.prefix_rfl ex)
    · exact q3.elim
/-- an empty dict with tuples as keys -/
def mDictT : ME := fun _ h => .ok (.ref h.length) (h ++ [.dt []])
theorem me_dict0T {pos : Pos} : PE X (.Dict [] [] pos) (tE G W mDictT) := PE.imp pe_dnewT fun σ H Q ⟨et, env, h, hE, hH, hP⟩ p hp => by
  have hH1 : HRel G (et ++ [p]) (h ++ [.dt []]) (upd H p (.dT [])) := hH.push hp ⟨[], upd_same, rfl, by simp⟩
  refine hP (et ++ [p]) _ (List.prefix_append _ _) (Ext.new hp) hH1 _ (den_ref.mpr ⟨p, ?_, rfl⟩)
  rw [← hH.len]
  simp
end
end NR

set_option Elab.async false
set_option linter.all false
set_option maxRecDepth 100000
set_option maxHeartbeats 1000000
/-! More sources, more operators. -/
namespace NR
open PySem PySem.Spec PyProof.Rows L2
/-! ### ranges downwards -/
def intsDown (hi : Int) (n : Nat) : List D := (List.range n).map fun i => .int (hi - (i : Nat))
def iRange3 (m : MA) : MI := fun env h => (m env h).bind fun xs h1 => match xs with
  | [.int i, .int j, .int c] => if c = -1 ∧ -10000000 ≤ i ∧ i ≤ 10000000 ∧ -10000000 ≤ j ∧ j ≤ 10000000 then .ok (.st (intsDown i (i - j).toNat)) h1 else .no
  | _ => .no
theorem down_get (hi : Int) (n i : Nat) : (intsDown hi n)[i]? = if i < n then some (.int (hi - (i : Nat))) else none := by
  unfold intsDown
  rw [List.getElem?_map]
  by_cases h : i < n
  · rw [if_pos h, List.getElem?_range h]
    rfl
  · rw [if_neg h, List.getElem?_eq_none (by simpa using h)]
    rfl
section
variable {X : Cx} {G : Cf} {W : WX} {e tg : Expr} {es : List Expr} {me : ME} {mt : MA} {pos p : Pos}
theorem jrel_down {et : List Addr} {H : Hp} {hi : Int} {n : Nat} : JRel G et H (.st (intsDown hi n)) (Itc hi (-1) n) := jrel_st fun et1 H1 h1 p ex R i => by
  rw [down_get]
  by_cases h : i < n
  · rw [if_pos h]
    refine ⟨h, fun x H' ⟨hH, hx⟩ => ?_⟩
    rw [hH, hx]
    refine ⟨Ext.refl _, R, ?_⟩
    rw [den_int]
    congr 1
    omega
  · rw [if_neg h]
    show n ≤ i
    omega
theorem list3 {et : List Addr} {H : Hp} {a b c : D} {vs : List V} (h : DenL G et H [a, b, c] vs) : ∃ x y z, vs = [x, y, z] ∧ Den G et H a x ∧ Den G et H b y ∧ Den G et H c z := by
  obtain ⟨x, v1, rfl, h1, k⟩ := denL_cons.mp h
  obtain ⟨y, v2, rfl, h2, k⟩ := denL_cons.mp k
  obtain ⟨z, v3, rfl, h3, k⟩ := denL_cons.mp k
  rw [denL_nil.mp k]
  exact ⟨x, y, z, rfl, h1, h2, h3⟩
theorem mi_range3 {a b c : Expr} (ha : PA X [a, b, c] (tA G W mt)) (hm : X.mg "range" = none) (hg : Gl X "range" := by rfl) (hs : starEach [a, b, c] X.env = (false, eval a X.env) :: starEach [b, c] X.env := by rfl) (hpl : (backTo pos (starEach [b, c] X.env)).any (·.1) = false := by rfl) : PI X tg (.Call (.Name "range" p) [a, b, c] [] pos) (tI G W (iRange3 mt)) :=
  PI.imp (pi_range3 hg hm ha hs hpl) fun σ H R ⟨et, env, h, hE, hH, hP⟩ => by
    refine ⟨et, env, h, hE, hH, (Pst.of_bind hP).imp fun et1 H1 h1 xs p e hr q vs hv => ?_⟩
    split at q
    · split at q
      · rename_i i j k c
        obtain ⟨v, w, u, rfl, r1, r2, r3⟩ := list3 hv
        obtain ⟨rfl, c1, c2, c3, c4⟩ := c
        exact ⟨i, j, -1, _, by rw [den_int.mp r1, den_int.mp r2, den_int.mp r3], RgC.neg (by omega) (by omega) (by omega) (by omega), q.here hr _ jrel_down⟩
      · exact q.elim
    · exact q.elim
end
end NR

set_option Elab.async false
set_option linter.all false
set_option maxRecDepth 100000
/-! Lists compared by < -/
namespace NR
open PySem PySem.Spec PyProof.Rows L2
def rLtL (K : PySem.W.Frag) : R2 := fun x y H Q => ∃ d e, Dp K H x d ∧ Dp K H y e ∧ PySem.W.alike d e = true ∧ d ≠ .none ∧ d.depth ≤ 50 ∧ Q (.bl (PySem.W.dataLt d e)) H
theorem op_ltL {X : Cx} (hu : X.A.units + 64 < cLine) : OpR X (compareOp .Lt) (rLtL X.K) := by
  intro pins s σ H x y v u Q I rx ry h
  obtain ⟨d, e, hd, he, al, dn, dd, q⟩ := h
  obtain ⟨as, r1⟩ := Dp.reads I d x v hd rx
  obtain ⟨bs, r2⟩ := Dp.reads I e y u he ry
  exact PySem.W.lt_data r1 r2 al dn (by omega) ⟨.bl _, H, I, rfl, q⟩
def dLtL : D → D → IH → R D := fun x y h => match D.py h 50 x, D.py h 50 y with
  | some (.list a), some (.list b) => if PySem.W.alike (.list a) (.list b) = true then .ok (.bl (PySem.W.dataLt (.list a) (.list b))) h else .no
  | _, _ => .no
theorem dLtL_ok {X : Cx} {G : Cf} (hK : X.K = G.K) : OpS G (rLtL X.K) dLtL := by
  intro et H h x y v w W Q rx ry R p
  unfold dLtL at p
  split at p
  · rename_i d1 d2 e1 e2
    split at p
    · rename_i al
      obtain ⟨a1, a2, a3⟩ := py_ok R 50 x v _ e1 rx
      obtain ⟨b1, b2, b3⟩ := py_ok R 50 y w _ e2 ry
      rw [hK]
      exact ⟨_, _, a1, b1, al, by simp, a3, p.here R _ (by simp)⟩
    · exact p.elim
  · exact p.elim
theorem lt_toks : ∀ (ns ms : List Int), PyProof.Rows.lexLt PyProof.Rows.itemOrd (PySem.W.keyToksAll (ns.map PyData.int)) (PySem.W.keyToksAll (ms.map PyData.int)) = HT.lexLt ns ms
  | [], [] => rfl
  | [], m :: ms => rfl
  | n :: ns, [] => rfl
  | n :: ns, m :: ms => by
    rw [List.map_cons, List.map_cons, PySem.W.keyToksAll, PySem.W.keyToksAll, PyProof.Rows.lex_self, PySem.W.keyToks, PySem.W.keyToks]
    show PyProof.Rows.lexLt PyProof.Rows.itemOrd (.inl n :: _) (.inl m :: _) = _
    unfold HT.lexLt
    by_cases e : n = m
    · subst e
      rw [PyProof.Rows.lex_self, if_pos rfl]
      exact lt_toks ns ms
    · rw [if_neg e]
      exact PyProof.Rows.lex_diff (O := PyProof.Rows.itemOrd) (x := Sum.inl n) (y := Sum.inl m) (by intro z; injection z with z; exact e z)
theorem alike_ints : ∀ (ns ms : List Int), PySem.W.alikeAll (ns.map PyData.int) (ms.map PyData.int) = true
  | [], _ => by simp [PySem.W.alikeAll]
  | n :: ns, [] => by simp [PySem.W.alikeAll]
  | n :: ns, m :: ms => by simp [PySem.W.alikeAll, PySem.W.alike, alike_ints ns ms]
theorem py_ints {h : IH} {k : Nat} : ∀ (ns : List Int), allM (D.py h (k + 1)) (ns.map D.int) = some (ns.map PyData.int)
  | [] => rfl
  | n :: ns => by
    rw [List.map_cons, allM, py_ints ns]
    rfl
theorem dLtL_ints {ns ms : List Int} {h : IH} : dLtL (.fl (ns.map D.int)) (.fl (ms.map D.int)) h = .ok (.bl (HT.lexLt ns ms)) h := by
  have e1 : ∀ xs : List Int, D.py h 50 (.fl (xs.map D.int)) = some (.list (xs.map PyData.int)) := fun xs => by
    show (allM (D.py h 49) (xs.map D.int)).map PyData.list = _
    rw [py_ints (k := 48)]
    rfl
  unfold dLtL
  rw [e1, e1]
  dsimp only
  have al : PySem.W.alike (.list (ns.map PyData.int)) (.list (ms.map PyData.int)) = true := by
    unfold PySem.W.alike
    exact alike_ints ns ms
  rw [if_pos al]
  unfold PySem.W.dataLt
  rw [PySem.W.keyToks, PySem.W.keyToks, lt_toks]
end NR

set_option Elab.async false
set_option linter.all false
set_option maxRecDepth 100000
/-! rfind and split of one sign; the place of a datum in a list. -/
namespace NR
open PySem PySem.Spec PyProof.Rows L2
def lstI (c : Nat) : List Nat → Option Nat
  | [] => none
  | d :: s => match lstI c s with
    | some i => some (i + 1)
    | none => if d = c then some 0 else none
theorem lstI_none {c : Nat} : ∀ {s : List Nat}, lstI c s = none ↔ ∀ k : Nat, s[k]? ≠ some c
  | [] => by simp [lstI]
  | d :: s => by
    unfold lstI
    constructor
    · intro h k
      cases e : lstI c s with
      | some i => rw [e] at h; cases h
      | none =>
        rw [e] at h
        by_cases q : d = c
        · simp [q] at h
        · cases k with
          | zero => simpa using q
          | succ k => simpa using lstI_none.mp e k
    · intro h
      have : lstI c s = none := lstI_none.mpr fun k => by simpa using h (k + 1)
      rw [this]
      have := h 0
      simp at this
      simp [this]
theorem lstI_some {c : Nat} : ∀ {s : List Nat} {i : Nat}, s[i]? = some c → (∀ k : Nat, i < k → s[k]? ≠ some c) → lstI c s = some i
  | [], i, h, _ => by simp at h
  | d :: s, 0, h, n => by
    have : lstI c s = none := lstI_none.mpr fun k => by simpa using n (k + 1) (by omega)
    unfold lstI
    rw [this]
    simp at h
    simp [h]
  | d :: s, i + 1, h, n => by
    have := lstI_some (s := s) (i := i) (by simpa using h) fun k hk => by simpa using n (k + 1) (by omega)
    unfold lstI
    rw [this]
def rfI (c : Nat) (s : List Nat) : Int := match lstI c s with
  | some i => (i : Int)
  | none => -1
open Builtin.Str StrLaws in
theorem rfind_one (s : List Nat) (c : Nat) : Txt.rfind (strV s) (strV [c]) = rfI c s := by
  have at_ : ∀ i, At (strV s) (strV [c]) (strV s).length i ↔ s[i]? = some c := fun i => by
    have := subAt_one (strV s) c i
    simpa [strV, At] using this
  unfold Txt.rfind rfI
  rcases last_spec (strV s) (strV [c]) with ⟨h1, h2⟩ | ⟨i, h1, h2, h3⟩
  · rw [h1, lstI_none.mpr fun k z => h2 k ((at_ k).mpr z)]
  · rw [h1, lstI_some ((at_ i).mp h2) fun k hk z => h3 k hk ((at_ k).mpr z)]
/-- the parts between -/
def spl1 (c : Nat) : List Nat → List (List Nat)
  | [] => [[]]
  | d :: s => if d = c then [] :: spl1 c s else match spl1 c s with
    | w :: r => (d :: w) :: r
    | [] => [[d]]
theorem spl1_ne (c : Nat) : ∀ s, ∃ w r, spl1 c s = w :: r
  | [] => ⟨[], [], rfl⟩
  | d :: s => by
    obtain ⟨w, r, e⟩ := spl1_ne c s
    unfold spl1
    rw [e]
    by_cases q : d = c
    · exact ⟨[], w :: r, by simp [q]⟩
    · exact ⟨d :: w, r, by simp [q]⟩
def fRfind : D → List D → IH → R D
  | .str s, [.str [c]], h => .ok (.int (rfI c s)) h
  | _, _, _ => .no
def fSplit : D → List D → IH → R D
  | .str s, [.str [c]], h => if c < 256 ∧ s.length ≤ 1000000 then .ok (.ref h.length) (h ++ [.lst ((spl1 c s).map D.str)]) else .no
  | _, _, _ => .no
def fIndexD : D → List D → IH → R D
  | x, [y], h => match D.py h 50 x, D.py h 49 y with
    | some (.list ds), some d => if SeqAt.shaped (.list ds) = true ∧ SeqAt.shaped d = true then (match ds.findIdx? (fun z => PyData.eqv z d) with
      | some j => .ok (.int (j : Nat)) h
      | none => .no) else .no
    | _, _ => .no
  | _, _, _ => .no
theorem spl_spl1 (c : Nat) : ∀ (s acc : List Nat), TL.spl [c] 0 acc s = match spl1 c s with
    | w :: r => (acc ++ w) :: r
    | [] => [acc]
  | [], acc => by simp [TL.spl, spl1]
  | d :: s, acc => by
    obtain ⟨w, r, e⟩ := spl1_ne c s
    unfold TL.spl spl1
    have pe : TL.pre [c] (d :: s) = decide (d = c) := by
      unfold TL.pre
      by_cases q : d = c <;> simp [q]
    rw [pe]
    by_cases q : d = c
    · rw [if_pos (by simpa using q), if_pos q]
      show acc :: TL.spl [c] 0 [] s = _
      rw [spl_spl1 c s [], e]
      simp
    · rw [if_neg (by simpa using q), if_neg q, spl_spl1 c s (acc ++ [d]), e]
      simp
theorem split_one (s : List Nat) (c : Nat) (hc : c < 256) : Txt.split (strV s) (strV [c]) = (spl1 c s).map strV := by
  apply TL.map_tl_inj
  rw [TL.split_spl (strV s) (strV [c]) (by simp [TL.tl, strV]) (TL.kind_ok (by simp [strV, hc]))]
  rw [List.map_map]
  have e1 : TL.tl (strV [c]) = [c] := rfl
  have e2 : TL.tl (strV s) = s := rfl
  rw [e1, e2, spl_spl1]
  obtain ⟨w, r, e⟩ := spl1_ne c s
  rw [e]
  have : (TL.tl ∘ strV) = id := by funext l; rfl
  rw [this, List.map_id]
  rfl
theorem units65 {k : Nat} {A : Around} (r : Room k A) : A.units + 65 < cLine := by have := r.un; have := r.units; unfold cLine at *; omega
section
variable {G : Cf}
theorem fRfind_ok : MethS G (fun x xs H Q => ∃ a b, x = .str a ∧ xs = [.str b] ∧ Q (.int (Txt.rfind a b)) H) fRfind := by
  intro et H h x v xs vs W Q rx rv R p
  unfold fRfind at p
  split at p
  · obtain ⟨w, rfl, r⟩ := list1 rv
    exact ⟨_, _, den_str.mp rx, by rw [den_str.mp r], p.here R _ (by rw [rfind_one]; simp)⟩
  · exact p.elim
theorem fSplit_ok : MethS G (fun x xs H Q => ∃ a b, x = .str a ∧ xs = [.str b] ∧ (b.length == 0) = false ∧ a.length + 2 ≤ sizeLine ∧ rNewStrs (Txt.split a b) H Q) fSplit := by
  intro et H h x v xs vs W Q rx rv R p
  unfold fSplit at p
  split at p
  · rename_i s c
    split at p
    · rename_i q
      obtain ⟨w, rfl, r⟩ := list1 rv
      refine ⟨_, _, den_str.mp rx, by rw [den_str.mp r], rfl, ?_, ?_⟩
      · rw [strV_length, sizeLine_eq]; omega
      · rw [split_one s c q.1]
        exact fun a ha => p.newL R DenL.ofStrs a ha
    · exact p.elim
  · exact p.elim
theorem fIndexD_ok : MethS G (rIndexD G.K) fIndexD := by
  intro et H h x v xs vs W Q rx rv R p
  unfold fIndexD at p
  split at p
  · rename_i y
    split at p
    · rename_i d1 d2 e1 e2
      split at p
      · rename_i q
        split at p
        · rename_i j ej
          obtain ⟨w, rfl, r⟩ := list1 rv
          obtain ⟨a1, a2, a3⟩ := py_ok R 50 x v _ e1 rx
          obtain ⟨b1, b2, b3⟩ := py_ok R 49 y w _ e2 r
          rw [List.findIdx?_eq_some_iff_getElem] at ej
          obtain ⟨hj, h1, h2⟩ := ej
          cases a1 with
          | lst hs ha =>
            exact ⟨_, w, d2, d1, j, d1[j], rfl, rfl, .lst hs ha, b1, q.1, q.2, List.getElem?_eq_getElem hj, h1, fun m z' hm hz => by
              obtain ⟨hm', ez⟩ := List.getElem?_eq_some_iff.mp hz
              subst ez
              simpa using h2 m hm, p.here R _ (by simp)⟩
        · exact p.elim
      · exact p.elim
    · exact p.elim
  · exact p.elim
end
theorem mt_w {X : Cx} {e : Expr} {w : TT} (h : PW X e w) : PT X e w := h.pt
section
open PySem.AutoSeq1 (wpAny_loadPart' sub_tuple_tuple sub_list_list sub_tuple_list sub_list_tuple idx_int)
open PySem.MeetsSeq PySem.MeetsSeq2 PySem.MeetsSeq3
theorem ext_tup (l b : Addr) (xs ys : Array Value) (n m : Nat) (dd : Option Addr) (sl : Array (Option Value)) (h0 : ¬(!xs.isEmpty && Builtin.List.listTooLong (xs.size + ys.size)) = true) (h1 : xs.size ≤ sizeLine) (h2 : xs.size + ys.size ≤ sizeLine + 1) :
    Meets (Builtin.«list.extend» ⟨[.ref l, .ref b], []⟩) (fun _ R s => s.heap.get? l = some { cls := .type "list", dict := none, data := .seq xs n, slots := #[] } ∧ s.heap.get? b = some { cls := .type "tuple", dict := dd, data := .seq ys m, slots := sl } ∧
      R (.ok (.ret Value.none)) { s with heap := s.heap.update l (Obj.mapSeq fun x => x ++ ys), toks := s.toks }) :=
  .of_wp fun prog w A R s h => by
    obtain ⟨hp, gl, ds, tk, os⟩ := s
    obtain ⟨hl, hb, h⟩ := h
    have t1 := PySem.AutoSeq1.idx_int
    have t2 := PySem.AutoSeq1.sub_tuple_tuple
    have t3 := PySem.AutoSeq1.sub_list_list
    have t4 := PySem.AutoSeq1.sub_tuple_list
    have t5 := PySem.AutoSeq1.sub_list_tuple
    have hz' : (xs ++ ys).size ≤ sizeLine + 1 := by rw [Array.size_append]; exact h2
    wp_walk using (wpAny_updateSeq hl rfl (hz := h1) (_hz' := hz')), wpAny_loadPart' hl, wpAny_loadPart' hb
    exact ⟨_, rfl, h⟩
end
def rExtendT (K : PySem.W.Frag) : V → List V → Hp → VK → Prop := fun x vs H Q => ∃ l b xs zs, x = .ref l ∧ vs = [.ref b] ∧ H l = some (.lst xs) ∧ SqT K H b zs ∧ xs.length + zs.length ≤ sizeLine ∧ Q .non (upd H l (.lst (xs ++ zs)))
theorem mt_extendT {X : Cx} : MtM X "list.extend" (rExtendT X.K) := by
  intro pins s σ H x vs v us Q I rx rv h
  obtain ⟨l, b, xs, zs, rfl, rfl, hH, hB, hz, q⟩ := h
  cases rx
  obtain ⟨u, rfl, ru⟩ := rv.one
  cases ru
  obtain ⟨z, its, n, r, hl, e⟩ := I.lstM hH
  obtain ⟨its2, r2, ⟨⟨cls2, dd2, data2, sl2⟩, e2, hc2, n2, hd2⟩, _⟩ := I.tuple hB
  simp only at hc2 hd2
  subst hc2 hd2
  have hl2 := r2.length
  have k1 : its.toArray.size + its2.toArray.size ≤ sizeLine := by rw [List.size_toArray, List.size_toArray]; omega
  have k2 : ¬ (!its.toArray.isEmpty && Builtin.List.listTooLong (its.toArray.size + its2.toArray.size)) = true := by
    rw [notLongL k1, Bool.and_false]
    simp
  refine call_meets F.slot_list_extend ⟨_, e, rfl⟩ F.entry_list_extend (F.args_list_extend_2 _ _) (ext_tup l b its.toArray its2.toArray n n2 dd2 sl2 k2 (by rw [List.size_toArray]; omega) (by omega)) ⟨e, e2, ?_⟩
  refine ⟨.non, _, I.lset (its' := its ++ its2) hH e (by simp) (r.append r2) ?_, rfl, q⟩
  rw [List.length_append]
  omega
def fExtendT : D → List D → IH → R D
  | .ref n, [.tup ys], h => match h[n]? with
    | some (.lst xs) => if xs.length + ys.length ≤ 10000000 then .ok .non (h.set n (.lst (xs ++ ys))) else .no
    | _ => .no
  | _, _, _ => .no
theorem fExtendT_ok {G : Cf} : MethS G (rExtendT G.K) fExtendT := by
  intro et H h x v xs vs W Q rx rv R p
  unfold fExtendT at p
  split at p
  · split at p
    · split at p
      · rename_i n ys _ xs' hx c
        obtain ⟨w, rfl, h1⟩ := list1 rv
        obtain ⟨a, us, h2, rfl, h3, h4⟩ := den_list R hx rx
        obtain ⟨b, ws, rfl, k3, k4⟩ := den_tup.mp h1
        refine ⟨a, b, us, ws, rfl, rfl, h3, k3.sq, sz (by rw [h4.len, k4.len]; exact c), ?_⟩
        have ex : Ext H (upd H a (.lst (us ++ ws))) := Ext.mut h3 True.intro
        exact p et _ List.prefix_rfl ex (R.set hx h2 rfl h3 True.intro ⟨_, upd_same, (h4.app k4).mono List.prefix_rfl ex⟩) _ (by simp)
      · exact p.elim
    · exact p.elim
  · exact p.elim
end NR

set_option Elab.async false
set_option linter.all false
set_option maxRecDepth 100000
set_option maxHeartbeats 4000000
namespace NR
open PySem PySem.Spec PyProof.Rows L2
/-! ### isinstance of several -/
def isTs (h : IH) (x : D) : List String → Option Bool
  | [] => some false
  | T :: r => match isT T h x with
    | some true => some true
    | some false => isTs h x r
    | none => none
def mIsT (Ts : List String) (m : ME) : ME := fun env h => (m env h).bind fun x h1 => match isTs h1 x Ts with
  | some b => .ok (.bl b) h1
  | none => .no
theorem tyK_ok {G : Cf} {et : List Addr} {H : Hp} {h : IH} (R : HRel G et h H) {x : D} {v : V} (r : Den G et H x v) : (∃ t, TyX G.K H v t ∧ ∀ (T : String) (b : Bool), isT T h x = some b → PySem.W.kitOne G.K t (.type T) = some b) ∨ ∀ T, isT T h x = none := by
  cases x with
  | non => rw [den_non.mp r]; exact .inl ⟨_, .base .non, fun _ _ e => kit_ty e⟩
  | bl _ => rw [den_bl.mp r]; exact .inl ⟨_, .base (.bl _), fun _ _ e => kit_ty e⟩
  | int _ => rw [den_int.mp r]; exact .inl ⟨_, .base (.int _), fun _ _ e => kit_ty e⟩
  | str _ => rw [den_str.mp r]; exact .inl ⟨_, .base (.str _), fun _ _ e => kit_ty e⟩
  | tup l =>
    obtain ⟨a, vs, rfl, h1, _⟩ := den_tup.mp r
    exact .inl ⟨_, sqT_ty (TpT.sq h1), fun _ _ e => kit_ty e⟩
  | ref n =>
    obtain ⟨a, h1, rfl⟩ := den_ref.mp r
    obtain ⟨c, hc, ok⟩ := R.cellAt h1
    cases c with
    | lst xs =>
      obtain ⟨vs, h2, _⟩ := ok
      exact .inl ⟨_, .base (.lst h2), fun T b e => kit_ty (by simpa only [isT, hc] using e)⟩
    | frz xs =>
      obtain ⟨vs, h2, _⟩ := ok
      exact .inl ⟨_, frzL_ty h2, fun T b e => kit_ty (by simpa only [isT, hc] using e)⟩
    | dk xs =>
      obtain ⟨vs, h2, _⟩ := ok
      exact .inl ⟨_, .base (.dK h2), fun T b e => kit_ty (by simpa only [isT, hc] using e)⟩
    | dt xs => exact .inr fun T => by simp only [isT, hc]
    | ins c fs => exact .inr fun T => by simp only [isT, hc]
  | fl l =>
    obtain ⟨a, vs, rfl, h1, _⟩ := den_fl.mp r
    exact .inl ⟨_, frzL_ty (K := G.K) h1.frz, fun _ _ e => kit_ty e⟩
  | fd ks l =>
    obtain ⟨a, ws, rfl, ⟨o, h1⟩, _⟩ := den_fd.mp r
    exact .inl ⟨_, .fDict h1, fun _ _ e => kit_ty e⟩
  | exc a => exact .inr fun T => rfl
theorem kits_of {K : PySem.W.Frag} {h : IH} {x : D} {t : Value} (k : ∀ (T : String) (b : Bool), isT T h x = some b → PySem.W.kitOne K t (.type T) = some b) : ∀ {Ts : List String} {b : Bool}, isTs h x Ts = some b → PySem.W.kitAny K t (Ts.map Value.type) = some b
  | [], b, e => by rw [← e]; rfl
  | T :: r, b, e => by
    unfold isTs at e
    rw [List.map_cons]
    cases h1 : isT T h x with
    | none => rw [h1] at e; cases e
    | some c =>
      rw [h1] at e
      cases c with
      | true => cases e; exact kitAny_cons (k T true h1) (fun z => by cases z) (fun _ => rfl)
      | false => exact kitAny_cons (k T false h1) (fun _ => kits_of k e) (fun z => by cases z)
inductive TNs (X : Cx) : List String → List Expr → Prop
  | nil : TNs X [] []
  | cons {y : Str} {T : String} {Ts : List String} {es : List Expr} {p : Pos} (hg : Gl X y) (hm : X.mg y = none) (hv : bootBuiltins y = some (.type T)) (hn : y ≠ "__name__") (hd : (y == ("__debug__" : Str)) = false) (h : TNs X Ts es) : TNs X (T :: Ts) (.Name y p :: es)
theorem TNs.pa {X : Cx} : ∀ {Ts : List String} {es : List Expr}, TNs X Ts es → PA X es (fun _ H Q => Q (Ts.map V.ty) H)
  | [], _, .nil => pa_nil
  | T :: Ts, _, .cons (y := y) (es := es) (p := p) hg hm hv hn hd h => pa_cons (pe_bltn (v := .ty T) hg hm hv rfl hn hd) h.pa rfl
theorem paired_tys : ∀ Ts : List String, Paired ClsV (Ts.map V.ty) (Ts.map Value.type)
  | [] => .nil
  | T :: Ts => .cons (.ty T) (paired_tys Ts)
theorem me_isT {X : Cx} {G : Cf} {W : WX} {a : Expr} {ma : ME} {pos p p2 : Pos} {T : String} {Ts : List String} {es : List Expr} {k : Nat} (hK : X.K = G.K) (ha : PE X a (tE G W ma)) (hm : X.mg "isinstance" = none) (hy : TNs X (T :: Ts) es) (hl : (T :: Ts).length ≤ 1000 := by decide) (hv : bootBuiltins "isinstance" = some (.builtin "isinstance") := by decide +kernel) (hg : Gl X "isinstance" := by rfl)
    (hs1 : starEach [a, .Tuple es k p2] X.env = (false, eval a X.env) :: starEach [.Tuple es k p2] X.env := by rfl) (hs2 : starEach [.Tuple es k p2] X.env = (false, eval (.Tuple es k p2) X.env) :: starEach [] X.env := by rfl) (hpl : (backTo pos (starEach [.Tuple es k p2] X.env)).any (·.1) = false := by rfl) :
    PE X (.Call (.Name "isinstance" p) [a, .Tuple es k p2] [] pos) (tE G W (mIsT (T :: Ts) ma)) :=
  PE.imp (pe_callB call_isiT hg hm hv (pa_cons ha (pa_cons (pe_tup hy.pa) pa_nil hs2) hs1) (by decide) (by decide) hs1 hpl) fun σ H Q ⟨et, env, h, hE, hH, hP⟩ => by
    refine ⟨et, env, h, hE, hH, (Pst.of_bind hP).imp fun et1 H1 h1 x p e hr q v hv => ?_⟩
    split at q
    · rename_i b hb
      refine ⟨sz (by rw [List.length_map]; exact Nat.le_trans hl (by omega)), fun tp htp => ?_⟩
      have e1 := Ext.new (o := .tup ((T :: Ts).map V.ty)) htp
      have hv2 := hv.mono List.prefix_rfl e1
      have hr2 := hr.new (o := .tup ((T :: Ts).map V.ty)) htp
      rcases tyK_ok hr2 hv2 with ⟨t, h2, h3⟩ | h2
      · rw [hK]
        exact ⟨v, tp, _, t, _, b, rfl, upd_same, paired_tys (T :: Ts), h2, kits_of h3 hb, q et1 _ List.prefix_rfl e1 hr2 _ (by simp)⟩
      · unfold isTs at hb
        rw [h2 T] at hb
        cases hb
    · exact q.elim
/-! ### a chain of three comparisons -/
def tChain3 (r r' r2 : R2) (ta tb tc td : TE) : TE := fun σ H Q => ta σ H fun x H1 => tb σ H1 fun y H2 => r x y H2 fun z H3 => ∃ k, z = .bl k ∧ (if k = true then tc σ H3 fun w H4 => r' y w H4 fun u H5 => ∃ j, u = .bl j ∧ (if j = true then td σ H5 fun t H6 => r2 w t H6 Q else Q (.bl false) H5) else Q (.bl false) H3)
section
variable {X : Cx} {a b c d : Expr} {ta tb tc td : TE} {pos : Pos} {r r' r2 : R2}
theorem pe_chain3 {o1 o2 o3 : CmpOp} (h1 : OpR X (compareOp o1) r) (h2 : OpR X (compareOp o2) r') (h3 : OpR X (compareOp o3) r2) (ha : PE X a ta) (hb : PE X b tb) (hc : PE X c tc) (hd : PE X d td)
    (hm : lastMarks [o1, o2, o3] [b, c, d] = false := by with_unfolding_all rfl) : PE X (.Compare a [o1, o2, o3] [b, c, d] pos) (tChain3 r r' r2 ta tb tc td) := by
  refine ⟨fun pins s σ H Q I q => ?_⟩
  refine Compare_chain (thn (ha.run pins s σ H _ I q) fun v s1 ⟨x, H1, I1, r1, q1⟩ => ?_) hm
  refine chain_link (thn (hb.run pins s1 σ H1 _ I1 q1) fun u s2 ⟨y, H2, I2, rr2, q2⟩ => ?_)
  refine thn (h1 pins s2 σ H2 x y v u _ I2 r1 rr2 q2) fun z s3 ⟨zz, H3, I3, r3, k, e, q3⟩ => ?_
  subst e
  cases r3
  refine wpAny_truthy_bool ?_
  cases k with
  | false => exact ite_ff ⟨.bl false, H3, I3, rfl, q3⟩
  | true =>
    refine ite_tt ?_
    refine chain_link (thn (hc.run pins s3 σ H3 _ I3 q3) fun w s4 ⟨ww, H4, I4, r4, q4⟩ => ?_)
    refine thn (h2 pins s4 σ H4 y ww u w _ I4 rr2 r4 q4) fun z2 s5 ⟨zz2, H5, I5, r5, k2, e2, q5⟩ => ?_
    subst e2
    cases r5
    refine wpAny_truthy_bool ?_
    cases k2 with
    | false => exact ite_ff ⟨.bl false, H5, I5, rfl, q5⟩
    | true => exact ite_tt (chain_last (thn (hd.run pins s5 σ H5 _ I5 q5) fun t s6 ⟨tt, H6, I6, r6, q6⟩ => h3 pins s6 σ H6 ww tt w t Q I6 r4 r6 q6))
end
def mChain3 (f g f3 : D → D → IH → R D) (a b c d : ME) : ME := fun env h => (a env h).bind fun x h1 => (b env h1).bind fun y h2 => (f x y h2).bind fun z h3 => match z with
  | .bl true => (c env h3).bind fun w h4 => (g y w h4).bind fun u h5 => match u with
    | .bl true => (d env h5).bind fun t h6 => f3 w t h6
    | .bl false => .ok (.bl false) h5
    | _ => .no
  | .bl false => .ok (.bl false) h3
  | _ => .no
section
variable {X : Cx} {G : Cf} {W : WX} {a b c d e : Expr} {ma mb mc md : ME} {pos : Pos} {r r' r2 : R2} {f g f3 : D → D → IH → R D}
theorem me_chain3 {o1 o2 o3 : CmpOp} (ho : OpR X (compareOp o1) r) (hs : OpS G r f) (ho' : OpR X (compareOp o2) r') (hs' : OpS G r' g) (ho2 : OpR X (compareOp o3) r2) (hs2 : OpS G r2 f3) (ha : PE X a (tE G W ma)) (hb : PE X b (tE G W mb)) (hc : PE X c (tE G W mc)) (hd : PE X d (tE G W md)) (hm : lastMarks [o1, o2, o3] [b, c, d] = false := by rfl) :
    PE X (.Compare a [o1, o2, o3] [b, c, d] pos) (tE G W (mChain3 f g f3 ma mb mc md)) := PE.imp (pe_chain3 ho ho' ho2 ha hb hc hd hm) fun σ H Q ⟨et, env, h, hE, hH, hP⟩ => by
  refine ⟨et, env, h, hE, hH, (Pst.of_bind hP).imp fun et1 H1 h1 x p e hr q v hv => ?_⟩
  refine ⟨et1, env, h1, hE.mono p e, hr, (Pst.of_bind q).imp fun et2 H2 h2 y p2 e2 hr2 q2 w hw => ?_⟩
  refine hs et2 H2 h2 x y v w _ _ (hv.mono p2 e2) hw hr2 ((Pst.of_bind q2).imp fun et3 H3 h3 z p3 e3 hr3 q3 vz hz => ?_)
  cases z with
  | bl k =>
    refine ⟨k, den_bl.mp hz, ?_⟩
    cases k with
    | true =>
      rw [if_pos rfl]
      refine ⟨et3, env, h3, ((hE.mono p e).mono p2 e2).mono p3 e3, hr3, (Pst.of_bind q3).imp fun et4 H4 h4 u p4 e4 hr4 q4 vu hu => ?_⟩
      refine hs' et4 H4 h4 y u w vu _ _ ((hw.mono p3 e3).mono p4 e4) hu hr4 ((Pst.of_bind q4).imp fun et5 H5 h5 z2 p5 e5 hr5 q5 vz2 hz2 => ?_)
      cases z2 with
      | bl k2 =>
        refine ⟨k2, den_bl.mp hz2, ?_⟩
        cases k2 with
        | true =>
          rw [if_pos rfl]
          refine ⟨et5, env, h5, ((((hE.mono p e).mono p2 e2).mono p3 e3).mono p4 e4).mono p5 e5, hr5, (Pst.of_bind q5).imp fun et6 H6 h6 t p6 e6 hr6 q6 vt ht => ?_⟩
          exact hs2 et6 H6 h6 u t vu vt _ Q ((hu.mono p5 e5).mono p6 e6) ht hr6 q6
        | false =>
          rw [if_neg Bool.false_ne_true]
          exact q5.here hr5 _ (by simp)
      | _ => exact q5.elim
    | false =>
      rw [if_neg Bool.false_ne_true]
      exact q3.here hr3 _ (by simp)
  | _ => exact q3.elim
theorem mt_chain3 {o1 o2 o3 : CmpOp} (ho : OpR X (compareOp o1) r) (hs : OpS G r f) (ho' : OpR X (compareOp o2) r') (hs' : OpS G r' g) (ho2 : OpR X (compareOp o3) r2) (hs2 : OpS G r2 f3) (ha : PE X a (tE G W ma)) (hb : PE X b (tE G W mb)) (hc : PE X c (tE G W mc)) (hd : PE X d (tE G W md)) (hm : lastMarks [o1, o2, o3] [b, c, d] = false := by rfl)
    (hv : ∀ whole, isTrue (.Compare a [o1, o2, o3] [b, c, d] pos) X.env whole = (do let v ← whole; standAt pos; holding [v] (truthy v)) := by intro _; rfl) (hK : X.K = G.K) :
    PT X (.Compare a [o1, o2, o3] [b, c, d] pos) (tT G W (mTr (mChain3 f g f3 ma mb mc md))) := mt_val hK (me_chain3 ho hs ho' hs' ho2 hs2 ha hb hc hd hm) hv
end
/-! ### reversed ranges -/
def iRevR1 (m : MA) : MI := fun env h => (m env h).bind fun xs h1 => match xs with
  | [.int j] => if -10000000 ≤ j ∧ j ≤ 10000000 then .ok (.st (intsDown (j - 1) j.toNat)) h1 else .no
  | _ => .no
def iRevR2 (m : MA) : MI := fun env h => (m env h).bind fun xs h1 => match xs with
  | [.int i, .int j] => if -10000000 ≤ i ∧ i ≤ 10000000 ∧ -10000000 ≤ j ∧ j ≤ 10000000 then .ok (.st (intsDown (j - 1) (j - i).toNat)) h1 else .no
  | _ => .no
section
variable {X : Cx} {G : Cf} {W : WX} {e tg a b : Expr} {me ma mb : ME} {pos p p2 q : Pos}
theorem jrel_downE {et : List Addr} {H : Hp} {hi hi' : Int} {n : Nat} (e : 0 < n → hi = hi') : JRel G et H (.st (intsDown hi n)) (Itc hi' (-1) n) := by
  cases n with
  | zero =>
    refine jrel_st fun et1 H1 h1 p ex R i => ?_
    rw [show (intsDown hi 0)[i]? = none from rfl]
    exact Nat.zero_le i
  | succ n => rw [e (by omega)]; exact jrel_down
theorem mi_revR1 (ha : PE X a (tE G W ma)) (hm : X.mg "reversed" = none) (hm2 : X.mg "range" = none) (hg : Gl X "reversed" := by rfl) (hg2 : Gl X "range" := by rfl) (hs : starEach [.Call (.Name "range" p2) [a] [] q] X.env = (false, eval (.Call (.Name "range" p2) [a] [] q) X.env) :: starEach [] X.env := by rfl) (hs3 : starEach [a] X.env = (false, eval a X.env) :: starEach [] X.env := by rfl) :
    PI X tg (.Call (.Name "reversed" p) [.Call (.Name "range" p2) [a] [] q] [] pos) (tI G W (iRevR1 (mCons ma mNil))) :=
  PI.imp (pi_revR hg hm (prg_1 hg2 hm2 ha hs3) hs) fun σ H K ⟨et, env, h, hE, hH, hP⟩ => by
    refine ⟨et, env, h, hE, hH, (Pst.of_bind (Pst.of_bind hP)).imp fun et1 H1 h1 x p e hr q v hv => ?_⟩
    simp only [mNil, R.bind] at q
    have q := Pst.here hr q
    cases x with
    | int j =>
      dsimp only at q
      split at q
      · rename_i c
        refine ⟨j, den_int.mp hv, by omega, by omega, by omega, by omega, q.here hr _ ?_⟩
        rw [show (j - 0).toNat = j.toNat by omega]
        exact jrel_downE fun h => by omega
      · exact q.elim
    | _ => exact q.elim
end
/-! ### max, min of a tuple -/
section
variable {prog : Program} {w : World} {A : Around} {E : Value → Shared → Prop} {s : Shared} {l : Addr} {its : List Value} {ns : List Int}
theorem tup_kept {h' : Heap} (hk : ∀ b o, b ∉ [s.heap.objs.size] → (s.heap.push { cls := .type "tuple_iterator", data := .fields #[.ref l, .int 0 0] }).get? b = some o → h'.get? b = some o) (b : Addr) (o : Obj) (e : s.heap.get? b = some o) : h'.get? b = some o := by
  refine hk b o (fun hm => ?_) (Heap.get?_push_of_some _ e)
  have := List.mem_singleton.mp hm
  subst this
  exact Nat.lt_irrefl _ (Heap.lt_size e)
theorem tup_fp (lt : l < s.heap.objs.size) (o : Obj) : ∀ b ∈ [s.heap.objs.size, l], b < (s.heap.push o).objs.size := fun b hb => by
  rw [Heap.size_push]
  rcases List.mem_cons.mp hb with rfl | hb
  · exact Nat.lt_succ_self _
  · rw [List.mem_singleton.mp hb]
    exact Nat.lt_succ_of_lt lt
theorem tup_val (hi : IntsAre its ns) (i : Nat) (v : Value) (h : its.toArray[i]? = some v) : ∃ t, v = .int (ns.getD i 0) t := PyProof.Rows.IntsAre.int_at hi i v (by simpa using h)
theorem tup_best {k : Nat} {M : Int} (hk : k < ns.length) (e : ns.getD k 0 = M) : M ∈ ns := by
  rw [List.getD_eq_getElem?_getD, List.getElem?_eq_getElem hk] at e
  rw [← e]
  exact List.getElem_mem hk
theorem max_tup {Q : Value → Shared → Prop} (hh : A.handled = none) (hl : s.heap.IsTuple l its.toArray) (hi : IntsAre its ns) (hne : 0 < ns.length)
    (h : ∀ h' tk M t', (∀ b o, s.heap.get? b = some o → h'.get? b = some o) → M ∈ ns → (∀ a, a ∈ ns → a ≤ M) → Q (.int M t') { s with heap := h', toks := tk }) : wpAny (model prog w) A (call (.builtin "max") [.ref l]) Q E s := by
  have lt : l < s.heap.objs.size := by obtain ⟨_, e, _⟩ := hl; exact Heap.lt_size e
  have hz : its.length = ns.length := IntsAre.length hi
  refine call_max_walk (wpAny_pyIter_tuple hl ?_)
  refine ⟨_, _, _, _, _, _, _, rfl, Walks.tuple (A := A.in1) hh _ l (Nat.ne_of_lt lt) its.toArray, ⟨⟨_, Heap.get?_push_size _ rfl, rfl, rfl⟩, hl.push _⟩, tup_fp lt _, by simpa [hz] using hne, CmpOf.ints_gt (fun i => ns.getD i 0) (tup_val hi), fun v h' tk hP hk => ?_⟩
  obtain ⟨h1, h2⟩ := argBest_gt (fun i => ns.getD i 0) (its.toArray.size - 1)
  obtain ⟨t, rfl⟩ := tup_val hi _ _ hP
  rw [List.size_toArray, hz] at h1 h2
  refine h h' tk _ t (tup_kept hk) (tup_best (by rw [List.size_toArray, hz]; omega) rfl) fun a ha => ?_
  obtain ⟨j, hj⟩ := List.mem_iff_getElem?.mp ha
  have hj2 := (List.getElem?_eq_some_iff.mp hj).1
  have := h2 j (by omega)
  simp only [List.getD_eq_getElem?_getD, hj, Option.getD_some] at this
  simpa [List.getD_eq_getElem?_getD, hz] using this
theorem min_tup {Q : Value → Shared → Prop} (hh : A.handled = none) (hl : s.heap.IsTuple l its.toArray) (hi : IntsAre its ns) (hne : 0 < ns.length)
    (h : ∀ h' tk M t', (∀ b o, s.heap.get? b = some o → h'.get? b = some o) → M ∈ ns → (∀ a, a ∈ ns → M ≤ a) → Q (.int M t') { s with heap := h', toks := tk }) : wpAny (model prog w) A (call (.builtin "min") [.ref l]) Q E s := by
  have lt : l < s.heap.objs.size := by obtain ⟨_, e, _⟩ := hl; exact Heap.lt_size e
  have hz : its.length = ns.length := IntsAre.length hi
  refine call_min_walk (wpAny_pyIter_tuple hl ?_)
  refine ⟨_, _, _, _, _, _, _, rfl, Walks.tuple (A := A.in1) hh _ l (Nat.ne_of_lt lt) its.toArray, ⟨⟨_, Heap.get?_push_size _ rfl, rfl, rfl⟩, hl.push _⟩, tup_fp lt _, by simpa [hz] using hne, CmpOf.ints_lt (fun i => ns.getD i 0) (tup_val hi), fun v h' tk hP hk => ?_⟩
  obtain ⟨h1, h2⟩ := argBest_lt (fun i => ns.getD i 0) (its.toArray.size - 1)
  obtain ⟨t, rfl⟩ := tup_val hi _ _ hP
  rw [List.size_toArray, hz] at h1 h2
  refine h h' tk _ t (tup_kept hk) (tup_best (by rw [List.size_toArray, hz]; omega) rfl) fun a ha => ?_
  obtain ⟨j, hj⟩ := List.mem_iff_getElem?.mp ha
  have hj2 := (List.getElem?_eq_some_iff.mp hj).1
  have := h2 j (by omega)
  simp only [List.getD_eq_getElem?_getD, hj, Option.getD_some] at this
  simpa [List.getD_eq_getElem?_getD, hz] using this
end
def rMaxT (K : PySem.W.Frag) : List V → Hp → VK → Prop := fun vs H Q => ∃ (a : Addr) (ns : List Int), vs = [V.ref a] ∧ (SqL K H a (ns.map V.int) ∨ SqT K H a (ns.map V.int)) ∧ 0 < ns.length ∧ ∀ m, m ∈ ns → (∀ y, y ∈ ns → y ≤ m) → Q (.int m) H
def rMinT (K : PySem.W.Frag) : List V → Hp → VK → Prop := fun vs H Q => ∃ (a : Addr) (ns : List Int), vs = [V.ref a] ∧ (SqL K H a (ns.map V.int) ∨ SqT K H a (ns.map V.int)) ∧ 0 < ns.length ∧ ∀ m, m ∈ ns → (∀ y, y ∈ ns → m ≤ y) → Q (.int m) H
section
variable {X : Cx} {G : Cf}
theorem cr_maxT (hc : X.calm = true) : CallR X (.builtin "max") (rMaxT X.K) := by
  intro pins s σ H vs us Q I r h
  obtain ⟨a, ns, rfl, hs | hs, hne, q⟩ := h
  · exact cr_max hc pins s σ H _ us Q I r ⟨a, ns, rfl, hs, hne, q⟩
  · obtain ⟨its, rv, ht, _⟩ := I.tuple hs
    rw [Vals.ref1 r]
    exact max_tup (I.ok.hd hc) ht rv.ints hne fun h' tk m t' hk h1 h2 => ⟨.int _, H, I.kept hk, ⟨_, rfl⟩, q m h1 h2⟩
theorem cr_minT (hc : X.calm = true) : CallR X (.builtin "min") (rMinT X.K) := by
  intro pins s σ H vs us Q I r h
  obtain ⟨a, ns, rfl, hs | hs, hne, q⟩ := h
  · exact cr_min hc pins s σ H _ us Q I r ⟨a, ns, rfl, hs, hne, q⟩
  · obtain ⟨its, rv, ht, _⟩ := I.tuple hs
    rw [Vals.ref1 r]
    exact min_tup (I.ok.hd hc) ht rv.ints hne fun h' tk m t' hk h1 h2 => ⟨.int _, H, I.kept hk, ⟨_, rfl⟩, q m h1 h2⟩
def bMax1T : List D → IH → R D
  | [x], h => match (seqOf h x).bind (allM D.int?) with
    | some ns => if 0 < ns.length then .ok (.int (imax ns)) h else .no
    | none => .no
  | _, _ => .no
def bMin1T : List D → IH → R D
  | [x], h => match (seqOf h x).bind (allM D.int?) with
    | some ns => if 0 < ns.length then .ok (.int (imin ns)) h else .no
    | none => .no
  | _, _ => .no
theorem sq_ints {et : List Addr} {H : Hp} {h : IH} {x : D} {v : V} {ns : List Int} (R : HRel G et h H) (e : (seqOf h x).bind (allM D.int?) = some ns) (r : Den G et H x v) : ∃ a, v = .ref a ∧ (SqL G.K H a (ns.map V.int) ∨ SqT G.K H a (ns.map V.int)) := by
  cases hq : seqOf h x with
  | none => rw [hq] at e; cases e
  | some ds =>
    rw [hq] at e
    obtain ⟨a, vs, rfl, h1, h2⟩ := seq_ok R hq r
    have := allM_ints (ds := ds) e
    subst this
    rw [h2.ints] at h1
    exact ⟨a, rfl, h1⟩
theorem bMax1T_ok : CallS G (rMaxT G.K) bMax1T := by
  intro et H h xs vs W Q hv hr q
  unfold bMax1T at q
  split at q
  · obtain ⟨v, rfl, r⟩ := list1 hv
    split at q
    · rename_i ns e
      split at q
      · rename_i l
        obtain ⟨a, rfl, s⟩ := sq_ints hr e r
        refine ⟨a, ns, rfl, s, l, fun m m1 m2 => ?_⟩
        have em : m = imax ns := Int.le_antisymm (imax_le m1) (m2 _ (imax_mem l))
        rw [em]
        exact q.here hr _ (by simp)
      · exact q.elim
    · exact q.elim
  · exact q.elim
theorem bMin1T_ok : CallS G (rMinT G.K) bMin1T := by
  intro et H h xs vs W Q hv hr q
  unfold bMin1T at q
  split at q
  · obtain ⟨v, rfl, r⟩ := list1 hv
    split at q
    · rename_i ns e
      split at q
      · rename_i l
        obtain ⟨a, rfl, s⟩ := sq_ints hr e r
        refine ⟨a, ns, rfl, s, l, fun m m1 m2 => ?_⟩
        have em : m = imin ns := Int.le_antisymm (m2 _ (imin_mem l)) (imin_le m1)
        rw [em]
        exact q.here hr _ (by simp)
      · exact q.elim
    · exact q.elim
  · exact q.elim
end
end NR

set_option Elab.async false
set_option linter.all false
set_option maxRecDepth 100000
set_option maxHeartbeats 4000000
/-! Lists within tuples and lists, locked. -/
namespace NR
open PySem PySem.Spec PyProof.Rows L2
/-- some locks lead there -/
inductive Locks (P : Hp → Prop) : Hp → Prop
  | done {H : Hp} (h : P H) : Locks P H
  | lock {H : Hp} {a : Addr} {u : HO} (e : H a = some u) (m : Mut (some u)) (k : ∀ od, Locks P (upd H a (.frz od u))) : Locks P H
theorem Locks.bind {P Q : Hp → Prop} {H : Hp} (x : Locks P H) (k : ∀ H', P H' → Locks Q H') : Locks Q H := by
  induction x with
  | done h => exact k _ h
  | lock e m _ ih => exact .lock e m ih
theorem Locks.imp {P Q : Hp → Prop} {H : Hp} (x : Locks P H) (k : ∀ H', P H' → Q H') : Locks Q H := x.bind fun H' h => .done (k H' h)
theorem Locks.run {X : Cx} {P : Hp → Prop} {pins : List (Addr × Obj)} {σ : L2.St} {s : Shared} {H : Hp} (x : Locks P H) : Inv X pins σ H s → ∃ H', Inv X pins σ H' s ∧ P H' := by
  induction x with
  | done h => exact fun I => ⟨_, I, h⟩
  | lock e m _ ih =>
    intro I
    obtain ⟨od, I2⟩ := I.lock e m
    exact ih od I2
mutual
/-- the lists and dicts from cell number b on, locked -/
def dzD (b : Nat) : Nat → IH → D → Option (D × IH)
  | 0, _, _ => none
  | k + 1, h, .ref n => if b ≤ n then (match h[n]? with
    | some (.lst xs) => match dzL b k (h.set n (.frz xs)) xs with
      | some (ys, h1) => some (.fl ys, h1)
      | none => none
    | _ => none) else some (.ref n, h)
  | k + 1, h, .tup l => match dzL b k h l with
    | some (ys, h1) => some (.tup ys, h1)
    | none => none
  | _ + 1, h, .fl l => some (.fl l, h)
  | _ + 1, h, .fd ks l => some (.fd ks l, h)
  | _ + 1, h, .exc a => none
  | _ + 1, h, .non => some (.non, h)
  | _ + 1, h, .bl i => some (.bl i, h)
  | _ + 1, h, .int i => some (.int i, h)
  | _ + 1, h, .str i => some (.str i, h)
def dzL (b : Nat) : Nat → IH → List D → Option (List D × IH)
  | 0, _, _ => none
  | _ + 1, h, [] => some ([], h)
  | k + 1, h, d :: l => match dzD b k h d with
    | some (y, h1) => match dzL b k h1 l with
      | some (ys, h2) => some (y :: ys, h2)
      | none => none
    | none => none
end
section
variable {G : Cf} {et : List Addr}
theorem dz_ok (b : Nat) : ∀ (k : Nat), (∀ (h : IH) (H : Hp) (d d' : D) (h' : IH) (v : V), HRel G et h H → Den G et H d v → dzD b k h d = some (d', h') → Locks (fun H' => HRel G et h' H' ∧ Ext H H' ∧ Den G et H' d' v) H) ∧
    (∀ (h : IH) (H : Hp) (l l' : List D) (h' : IH) (vs : List V), HRel G et h H → DenL G et H l vs → dzL b k h l = some (l', h') → Locks (fun H' => HRel G et h' H' ∧ Ext H H' ∧ DenL G et H' l' vs) H)
  | 0 => ⟨fun _ _ _ _ _ _ _ _ e => by simp [dzD] at e, fun _ _ _ _ _ _ _ _ e => by simp [dzL] at e⟩
  | k + 1 => by
    obtain ⟨ihD, ihL⟩ := dz_ok b k
    refine ⟨fun h H d d' h' v R r e => ?_, fun h H l l' h' vs R r e => ?_⟩
    · cases d with
      | ref n =>
        unfold dzD at e
        split at e
        · split at e
          · rename_i xs hx
            split at e
            · rename_i ys h1 e1
              cases e
              obtain ⟨a, ha, rfl⟩ := den_ref.mp r
              obtain ⟨vs, k1, k2⟩ := R.cell n _ a hx ha
              refine .lock k1 True.intro fun od => ?_
              have ex : Ext H (upd H a (.frz od (.lst vs))) := Ext.mut k1 True.intro
              have hf : DenL G et (upd H a (.frz od (.lst vs))) xs vs := k2.mono List.prefix_rfl ex
              have hc : CellOk G et (upd H a (.frz od (.lst vs))) a (.frz xs) := ⟨vs, .inl ⟨od, upd_same⟩, hf⟩
              refine (ihL _ _ xs ys h' vs (R.set hx ha rfl k1 True.intro hc) hf e1).imp fun H1 ⟨R1, x1, D1⟩ => ⟨R1, ex.trans x1, ?_⟩
              exact den_fl.mpr ⟨a, vs, rfl, FrzM.ext x1 ⟨od, upd_same⟩, D1⟩
            · cases e
          · cases e
        · cases e
          exact .done ⟨R, Ext.refl H, r⟩
      | tup l =>
        unfold dzD at e
        split at e
        · rename_i ys h1 e1
          cases e
          obtain ⟨a, vs, rfl, h2, h3⟩ := den_tup.mp r
          exact (ihL h H l ys h' vs R h3 e1).imp fun H1 ⟨R1, x1, D1⟩ => ⟨R1, x1, den_tup.mpr ⟨a, vs, rfl, h2.ext x1, D1⟩⟩
        · cases e
      | exc a => simp [dzD] at e
      | fl l => simp [dzD] at e; obtain ⟨rfl, rfl⟩ := e; exact .done ⟨R, Ext.refl H, r⟩
      | fd ks l => simp [dzD] at e; obtain ⟨rfl, rfl⟩ := e; exact .done ⟨R, Ext.refl H, r⟩
      | non => simp [dzD] at e; obtain ⟨rfl, rfl⟩ := e; exact .done ⟨R, Ext.refl H, r⟩
      | bl i => simp [dzD] at e; obtain ⟨rfl, rfl⟩ := e; exact .done ⟨R, Ext.refl H, r⟩
      | int i => simp [dzD] at e; obtain ⟨rfl, rfl⟩ := e; exact .done ⟨R, Ext.refl H, r⟩
      | str i => simp [dzD] at e; obtain ⟨rfl, rfl⟩ := e; exact .done ⟨R, Ext.refl H, r⟩
    · cases l with
      | nil =>
        simp [dzL] at e
        obtain ⟨rfl, rfl⟩ := e
        exact .done ⟨R, Ext.refl H, r⟩
      | cons d l =>
        unfold dzL at e
        split at e
        · rename_i y h1 e1
          split at e
          · rename_i ys h2 e2
            cases e
            obtain ⟨v, ws, rfl, r1, r2⟩ := denL_cons.mp r
            refine (ihD h H d y h1 v R r1 e1).bind fun H1 ⟨R1, x1, D1⟩ => ?_
            refine (ihL h1 H1 l ys h' ws R1 (r2.mono List.prefix_rfl x1) e2).imp fun H2 ⟨R2, x2, D2⟩ => ⟨R2, x1.trans x2, ?_⟩
            exact denL_cons.mpr ⟨v, ws, rfl, D1.mono List.prefix_rfl x2, D2⟩
          · cases e
        · cases e
end
open Classical in
noncomputable def dzR (h : IH) (r : R D) : R D := match r with
  | .ok d h' => match dzD h.length 1000 h' d with
    | some (d', h2) => if D.lo h.length d' = true ∧ okB h.length h h2 then .ok d' (h2.take h.length) else .ok d h'
    | none => .ok d h'
  | r => r
noncomputable def mDz (m : ME) : ME := fun env h => dzR h (m env h)
theorem me_dz {X : Cx} {G : Cf} {W : WX} {e : Expr} {m : ME} (he : PE X e (tE G W m)) : PE X e (tE G W (mDz m)) := ⟨fun pins s σ H Q I ⟨et, env, h, hE, hH, hP⟩ => by
  have main : Pst G et H (m env h) (fun et' H' _ d => ∀ v, Den G et' H' d v → Locks (fun H2 => Q v H2) H') (fun c d H' => W c d σ H') := by
    have hP : Pst G et H (dzR h (m env h)) _ _ := hP
    revert hP
    cases m env h with
    | no => exact fun z => z
    | ex c d h' => exact fun z => z
    | ok d h' =>
      intro hP
      have dull : Pst G et H (.ok d h') (fun et' H' _ d => ∀ v, Den G et' H' d v → Q v H') (fun c d H' => W c d σ H') → Pst G et H (.ok d h') (fun et' H' _ d => ∀ v, Den G et' H' d v → Locks (fun H2 => Q v H2) H') (fun c d H' => W c d σ H') := fun z => z.imp fun et1 H1 h1 a p e hr q v hv => .done (q v hv)
      unfold dzR at hP
      dsimp only at hP
      split at hP
      · rename_i d' h2 e1
        split at hP
        · rename_i c
          intro et' H' p e hr v hv
          refine ((dz_ok (G := G) (et := et') h.length 1000).1 h' H' d d' h2 v hr hv e1).imp fun H2 ⟨R2, x2, D2⟩ => ?_
          have al := okB_all hH c.2
          have R3 := R2.cut p al
          rw [hH.len] at R3
          have lo := c.1
          rw [← hH.len] at lo
          exact hP et H2 List.prefix_rfl (e.trans x2) R3 v (D2.back p lo)
        · exact dull hP
      · exact dull hP
  refine thn (he.run pins s σ H _ I ⟨et, env, h, hE, hH, main⟩) fun v s1 ⟨x, H1, I1, r, q⟩ => ?_
  obtain ⟨H2, I2, q2⟩ := q.run I1
  exact ⟨x, H2, I2, r, q2⟩⟩
end NR

set_option Elab.async false
set_option linter.all false
set_option maxRecDepth 100000
set_option maxHeartbeats 4000000
namespace NR
open PySem PySem.Spec PyProof.Rows L2
/-! ### str(n); a statement that is never come to -/
def bStr1 : List D → IH → R D
  | [.int i], h => if i.natAbs.log2 < 1920 then .ok (.str (PySem.Str.cps (toString i)).toList) h else .no
  | _, _ => .no
theorem strV_back (x : Str) : strV x.cps.toList = x := by
  obtain ⟨c⟩ := x
  rfl
section
variable {G : Cf}
theorem bStr1_ok : CallS G (fun xs H Q => ∃ i : Int, xs = [.int i] ∧ i.natAbs.log2 < 1920 ∧ Q (.str (toString i)) H) bStr1 := by
  intro et H h xs vs W Q rv R p
  unfold bStr1 at p
  split at p
  · split at p
    · rename_i c
      obtain ⟨v, rfl, h1⟩ := list1 rv
      exact ⟨_, by rw [den_int.mp h1], c, p.here R _ (den_str.mpr (by rw [strV_back]))⟩
    · exact p.elim
  · exact p.elim
end
def msNoS : MS := fun _ _ => .no
theorem ms_noS {X : Cx} {G : Cf} {W : WX} {st : Stmt} : PS X st (tS G W msNoS) := ⟨fun _ _ _ _ _ _ ⟨_, _, _, _, _, hP⟩ => hP.elim⟩
end NR

set_option Elab.async false
set_option linter.all false
set_option maxRecDepth 100000
set_option maxHeartbeats 4000000
/-! A caught exception handed to a def; products of wide numbers. -/
namespace NR
open PySem PySem.Spec PyProof.Rows L2
section
variable {P : Program} {w : World} {K : PySem.W.Frag} {mg : Str → Option Value} {base : Heap} {G : Cf}
/-- a def's promise where an exception at hand is pinned -/
structure FnOkP (P : Program) (w : World) (K : PySem.W.Frag) (mg : Str → Option Value) (base : Heap) (CX : CXT) (p : Addr × Obj) (k : Nat) (f : Addr) (fd : FuncData) (ps : List Str) (sp : Sp) : Prop where
  len : ∀ vs H Q E, sp vs H Q E → vs.length = ps.length
  run : ∀ (B : Around) (ou : List PySem.Env) (t : Shared) (H : Hp) (ar : Args) (vals : List Value) (vs : List V) (Q : VK) (E : XK),
    L2H.RoomH k B → L2H.PinOk ou H t p → Env0 P w K mg base B ou t H → BindsTo t fd ar (ps.zip vals) → Vals vs vals → sp vs H Q E →
    codeAny (model P w) B (.call (.ref f) ar) (CR CX ou P w H t Q E) t
theorem fnPMP {x qual : Str} {st : Stmt} {f : Addr} {fd : FuncData} {N ps : List Str} {k n : Nat} {m : MS} {p : Addr × Obj} (F : Fun K x qual st f fd) (S : FnScope N ps (defScope st)) (hn : ps.length = n)
    (hb : ∀ (cdv : Value) (A : Around) (outer : List PySem.Env) (s : Shared) (H : Hp) (E : XK),
      Takes (L2H.cxH (L2.CX P w) P w K mg base N qual (defScope st) f cdv A outer s H E p) (fun c d _ H => E c d H) →
      PSs (L2H.cxH (L2.CX P w) P w K mg base N qual (defScope st) f cdv A outer s H E p) (defBody st) (tS G (fun c d _ H => E c d H) m)) : FnOkP P w K mg base (L2.CX P w) p (k + 1) f fd ps (FSp G n (fnM N.length m)) := by
  obtain ⟨_, _, _, _, _, _, cdv, _, _, rfl, lk, hcd⟩ := F.ex
  refine ⟨fun vs H Q E h => h.1.trans hn.symm, fun B ou t H ar vals vs Q E room hpin e0 bnd rv hsp => ?_⟩
  have vl : vs.length = ps.length := hsp.1.trans hn.symm
  have kx : K.In t.heap := e0.mod.kin.keeps fun b o e => (e0.bs b o e).1
  have nl : t.heap.NoLimit := e0.mod.nolimit.keeps fun b o e => (e0.bs b o e).1
  refine codeAny_call_function room.depth (kx _ _ lk) rfl S.co S.gen rfl (PySem.W.codeRec_of kx hcd) (bnd _ _ _ _ (wpAny_newFunctionEnv_cells S.kind (fun y hy => ?_) fun env he s2 ic => ?_))
  · rcases S.par y.1 (List.of_mem_zip hy).1 with q | q
    · exact .inl q
    · exact .inr ⟨q, PySem.W.cellsFrom_some _ _ _ (.inl q)⟩
  subst he
  refine ⟨nl.keeps ic.toInCall.keep, codeAny_func ?_⟩
  have body := hb cdv B ou t H E (takes_of rfl rfl rfl rfl)
  have inv : Inv (L2H.cxH (L2.CX P w) P w K mg base N qual (defScope st) f cdv B ou t H E p) [] (start N vs) H s2 := L2H.inv_startH S hpin e0 vl rv ic
  obtain ⟨hl, et, ds, h, hv, hH, hP⟩ := hsp
  have want : tS G (fun c d _ H => E c d H) m { nx := fun _ H' => Q .non H', rt := Q } (start N vs) H := by
    refine ⟨et, _, h, EnvR.start hv N, hH, ?_⟩
    unfold fnM at hP
    revert hP
    generalize m (ds.map some ++ List.replicate (N.length - ds.length) none) h = r
    intro hP
    cases r with
    | nx e h1 => exact fun et' H' σ' p ex hr _ => hP et' H' p ex hr _ (by simp)
    | rt d h1 => exact fun et' H' v p ex hr hv => hP et' H' p ex hr v hv
    | ex c d e h1 => exact fun et' H' σ' cls dd p ex hr _ hx => hP et' H' cls dd p ex hr hx
    | bk e h1 => exact hP.elim
    | ct e h1 => exact hP.elim
    | no => exact hP.elim
  refine wpAny_mono (body.run [] s2 (start N vs) H _ inv want) (fun fl s3 hs => ?_) fun _ _ z => z
  cases fl with
  | brk => obtain ⟨_, _, _, z⟩ := hs; exact z.elim
  | cont => obtain ⟨_, _, _, z⟩ := hs; exact z.elim
  | next =>
    obtain ⟨σ3, H3, J, q⟩ := hs
    exact ⟨.non, H3, J.os, J.bare, J.base, J.hok, rfl, q⟩
  | ret u =>
    obtain ⟨v, σ3, H3, J, r3, q⟩ := hs
    exact ⟨v, H3, J.os, J.bare, J.base, J.hok, r3, q⟩
end
section
variable {X : Cx} {CX : CXT} {k : Nat} {f : Addr} {fd : FuncData} {ps : List Str} {sp : Sp} {x : Str} {p pos : Pos} {e : Expr} {es : List Expr} {t : TA} {E : L2.St → XK} {σ : L2.St} {pt : Addr × Obj}
theorem run_fnSP {pins : List (Addr × Obj)} {H : Hp} {s : Shared} {Q : VK} {us : List Value} {vs : List V} (F : FnOkP X.prog X.w X.K X.mg X.base CX pt k f fd ps sp) (hp : pt ∈ X.pn) (hr : L2H.RoomH k X.A) (hb : Binds X.K fd ps []) (hx : PassesAt CX X σ (E σ))
    (I : Inv X pins σ H s) (r : Vals vs us) (h : sp vs H Q (E σ)) : wpAny (model X.prog X.w) X.A (call (.ref f) us) (EP X pins σ Q) X.xe s := by
  have hl : us.length = ps.length := by rw [← r.length]; exact F.len _ _ _ _ h
  have b := hb s us I.kIn (by rw [List.append_nil]; exact hl)
  rw [List.append_nil] at b
  have P1 := I.pin pt (List.mem_append_left _ hp)
  have hpin : L2H.PinOk X.stack H s pt := ⟨P1.1, P1.2.1, fun hm => (List.mem_cons.mp (I.stkSub pt.1 hm)).elim P1.2.2.1 P1.2.2.2.1, P1.2.2.2.2⟩
  refine wpAny_call (codeAny_mono (F.run X.A X.stack s H ⟨us, []⟩ us vs Q (E σ) hr hpin I.env0 b r h) fun r s' hq => ?_)
  cases r with
  | error e => exact hx pins H s e s' I hq
  | ok fl =>
    cases fl with
    | ret u => exact I.after hq
    | next => exact False.elim hq
    | brk => exact False.elim hq
    | cont => exact False.elim hq
theorem pe_callSP (F : FnOkP X.prog X.w X.K X.mg X.base CX pt k f fd ps sp) (hp : pt ∈ X.pn) (hr : L2H.RoomH k X.A) (hg : Gl X x) (hm : X.mg x = some (.ref f)) (hk : PySem.W.keepIn X.K (.ref f) = true) (hb : Binds X.K fd ps []) (hx : ∀ σ, PassesAt CX X σ (E σ))
    (ha : PA X (e :: es) t) (hdb : (x == ("__debug__" : Str)) = false := by decide) (he : starEach (e :: es) X.env = (false, eval e X.env) :: starEach es X.env := by rfl) (hpl : (backTo pos (starEach es X.env)).any (·.1) = false := by rfl) :
    PE X (.Call (.Name x p) (e :: es) [] pos) (fun σ H Q => t σ H fun vs H1 => sp vs H1 Q (E σ)) := by
  refine ⟨fun pins s σ H Q I h => ?_⟩
  refine wpAny_Call_Name_kw (ld_glob I hg hm ?_ hdb)
  refine PySem.W.callWith_K (h₀ := X.base) I.ok.mod.kin hk (thn (ha.run pos pins s σ H _ I h) fun us s1 ⟨vs, H1, I1, r, q⟩ => ⟨I1.kIn, ?_⟩) he hpl
  exact run_fnSP F hp hr hb (hx σ) I1 r q
end
/-- such a def at hand: m tells of each class and place -/
structure FnGP (P : Program) (w : World) (K : PySem.W.Frag) (mg : Str → Option Value) (base : Heap) (G : Cf) (x : Str) (k n : Nat) (m : Str → Addr → MF) : Prop where
  ex : ∃ f fd ps, (∀ c a oe, Zc (.ref (G.C c)) none oe → (∃ vs, oe.data = .fields vs) → FnOkP P w K mg base (L2.CX P w) (a, oe) k f fd ps (FSp G n (m c a))) ∧ mg x = some (.ref f) ∧ PySem.W.keepIn K (.ref f) = true ∧ Binds K fd ps []
section
variable {X : Cx} {G : Cf} {W : WX} {k j n : Nat} {m : Str → Addr → MF} {x : Str} {p pos : Pos} {e : Expr} {es : List Expr} {mt : MA} {a : Addr} {oe : Obj} {pn : List (Addr × Obj)} {c : Str}
theorem me_callP (F : FnGP X.prog X.w X.K X.mg X.base G x k n m) (hz : Zc (.ref (G.C c)) none oe) (hf : ∃ vs, oe.data = .fields vs) (hr : Room j X.A) (hj : k ≤ j) (tk : Takes (X.suite a ((a, oe) :: pn)) W) (ha : PA (X.suite a ((a, oe) :: pn)) (e :: es) (tA G W mt)) (hg : Gl (X.suite a ((a, oe) :: pn)) x := by rfl) (hdb : (x == ("__debug__" : Str)) = false := by decide)
    (he : starEach (e :: es) X.env = (false, eval e X.env) :: starEach es X.env := by rfl) (hpl : (backTo pos (starEach es X.env)).any (·.1) = false := by rfl) : PE (X.suite a ((a, oe) :: pn)) (.Call (.Name x p) (e :: es) [] pos) (tE G W (mCall n (m c a) mt)) := by
  obtain ⟨f, fd, ps, h1, h2, h3, h4⟩ := F.ex
  have hr' := L2H.roomH_of (hr.mono hj)
  exact PE.imp (pe_callSP (X := X.suite a ((a, oe) :: pn)) (h1 c a oe hz hf) List.mem_cons_self ⟨hr'.dp, hr'.un⟩ hg h2 h3 h4 (passAt tk) ha hdb he hpl) fun σ H Q ⟨et, env, h, hE, hH, hP⟩ =>
    ⟨et, env, h, hE, hH, (Pst.of_bind hP).imp fun et1 H1 h1 ds p e hr q vs hv => FSp.of_call hv hr q⟩
end
theorem DefAt.fnGP {P : Program} {w : World} {K : PySem.W.Frag} {mg : Str → Option Value} {base : Heap} {G : Cf} {x : Str} {st : Stmt} {ps : List Str} {k n : Nat} {m : Str → Addr → MF} (d : DefAt K mg x st ps)
    (h : ∀ f fd, Fun K x x st f fd → ∀ c a oe, Zc (.ref (G.C c)) none oe → (∃ vs, oe.data = .fields vs) → FnOkP P w K mg base (L2.CX P w) (a, oe) k f fd ps (FSp G n (m c a))) : FnGP P w K mg base G x k n m := by
  obtain ⟨f, fd, h1, h2, h3⟩ := d.ex
  exact ⟨f, fd, ps, h f fd h1, h2, h1.kp, h3⟩
/-! ### isinstance of what is pinned -/
theorem call_isETP {X : Cx} {a D : Addr} {oe : Obj} (hp : (a, oe) ∈ X.pn) (C : ExcC X.K D) (hz : Zc (.ref D) none oe) (hf : ∃ vs, oe.data = .fields vs) : CallR X (.builtin "isinstance") (rIsET X.K D a) := by
  intro pins s σ H xs us Q I r h
  obtain ⟨tp, cs, ws, b, rfl, hT, k, e, q⟩ := h
  obtain ⟨u1, u2, rfl, r1, r2⟩ := vals2 r
  cases (show u2 = Value.ref tp from r2)
  cases (show u1 = Value.ref a from r1)
  obtain ⟨hget, _⟩ := I.pin (a, oe) (List.mem_append.mpr (.inl hp))
  obtain ⟨vs, hv⟩ := hf
  have J : PySem.W.InstAt s.heap a oe D none := by
    obtain ⟨oc, od, oda, osl⟩ := oe
    obtain ⟨h1, h2⟩ := hz
    dsimp only at h1 h2 hv
    subst h1 h2 hv
    exact ⟨hget, rfl, rfl, trivial⟩
  obtain ⟨_, its, rv, o, h1, h2, n, h3⟩ := (show ObjOk _ _ H s.heap tp (.tup cs) from I.hok tp _ hT)
  have e3 := ClsV.all k rv
  subst e3
  obtain ⟨oc, od, dt, sl⟩ := o
  simp only at h2 h3
  subst h2 h3
  exact PySem.W.kia_tup (PySem.W.handS_kitx_exc C.hg C.hk C.hs C.hd C.ha C.hn C.ht C.hm) I.kIn J h1 e (fun z => nomatch z) fun tk => ⟨.bl b, H, I.kept (t' := tk) fun _ _ z => z, rfl, q⟩
section
variable {X : Cx} {G : Cf} {W : WX} {a : Addr} {oe : Obj} {p p1 p2 pos : Pos}
theorem call_isEP {D : Addr} (hp : (a, oe) ∈ X.pn) (C : ExcC X.K D) (hz : Zc (.ref D) none oe) (hf : ∃ vs, oe.data = .fields vs) : CallR X (.builtin "isinstance") (fun xs H Q => ∃ (cv : V) (u : Value) (b : Bool), xs = [.ref a, cv] ∧ (∀ u', RelV cv u' → u' = u) ∧ PySem.W.kitOne X.K (.ref D) u = some b ∧ Q (.bl b) H) := by
  intro pins s σ H xs us Q I r h
  obtain ⟨cv, w, b, rfl, hc, e, q⟩ := h
  obtain ⟨u1, u2, rfl, r1, r2⟩ := vals2 r
  cases hc u2 r2
  cases (show u1 = Value.ref a from r1)
  obtain ⟨hget, _⟩ := I.pin (a, oe) (List.mem_append.mpr (.inl hp))
  obtain ⟨vs, hv⟩ := hf
  have J : PySem.W.InstAt s.heap a oe D none := by
    obtain ⟨oc, od, oda, osl⟩ := oe
    obtain ⟨h1, h2⟩ := hz
    dsimp only at h1 h2 hv
    subst h1 h2 hv
    exact ⟨hget, rfl, rfl, trivial⟩
  exact PySem.W.kia_one (PySem.W.handS_kitx_exc C.hg C.hk C.hs C.hd C.ha C.hn C.ht C.hm) I.kIn J e (fun z => nomatch z) fun tk => ⟨.bl b, H, I.kept (t' := tk) fun _ _ z => z, rfl, q⟩
theorem me_isEP {t : CTab} {c y n : Str} (i : Nat) (hz : Zc (.ref (G.C c)) none oe) (hf : ∃ vs, oe.data = .fields vs) (hp : (a, oe) ∈ X.pn) (F : ExI X.K G.C t) (hm : X.mg "isinstance" = none) (hy : CNs X G.C [y] [.Name y p2])
    (hN : X.N[i]? = some n := by rfl) (hv : Vis X.env.scope n := by first | exact Or.inl rfl | exact Or.inr (Or.inl rfl) | exact Or.inr (Or.inr rfl)) (hg : Gl X "isinstance" := by rfl) (hd : (n == ("__debug__" : Str)) = false := by decide) (hcd : (n == ("__classdict__" : Str)) = false := by decide) (hb : bootBuiltins "isinstance" = some (.builtin "isinstance") := by decide +kernel)
    (hs1 : starEach [.Name n p1, .Name y p2] X.env = (false, eval (.Name n p1) X.env) :: starEach [.Name y p2] X.env := by rfl) (hpl : (backTo pos (starEach [.Name y p2] X.env)).any (·.1) = false := by rfl) :
    PE X (.Call (.Name "isinstance" p) [.Name n p1, .Name y p2] [] pos) (tE G W (mIsE t c a i y)) := by
  cases hg0 : t.get c y with
  | none =>
    refine pe_no fun env h => ?_
    unfold mIsE
    split
    · split
      · rw [hg0]
      · rfl
    · rfl
  | some b0 =>
  have C := (F.get hg0).2
  exact PE.imp (pe_callB (call_isEP hp C hz hf) hg hm hb (pa_cons (pe_var hN hv hd hcd) hy.pa hs1) (by decide) (by decide) hs1 hpl) fun σ H Q ⟨et, env, h, hE, hH, hP⟩ => by
    unfold mIsE at hP
    split at hP
    · rename_i a' ha
      obtain ⟨v, e1, r⟩ := hE.2 i _ ha
      have ev : v = .ref a' := by simpa [Den] using r
      subst ev
      split at hP
      · rename_i ea
        subst ea
        split at hP
        · rename_i b hb
          exact ⟨_, e1, clV G.C y, clU G.C y, b, rfl, fun u ru => ClsV.eq (clV_U y) ru, (F.get hb).1, hP.here hH _ (by simp)⟩
        · exact hP.elim
      · exact hP.elim
    · exact hP.elim
theorem me_isETP {t : CTab} {c n : Str} {ys : List Str} {es : List Expr} {k : Nat} (i : Nat) (hz : Zc (.ref (G.C c)) none oe) (hf : ∃ vs, oe.data = .fields vs) (hp : (a, oe) ∈ X.pn) (F : ExI X.K G.C t) (hm : X.mg "isinstance" = none) (hy : CNs X G.C ys es)
    (hN : X.N[i]? = some n := by rfl) (hv : Vis X.env.scope n := by first | exact Or.inl rfl | exact Or.inr (Or.inl rfl) | exact Or.inr (Or.inr rfl)) (hl : ys.length ≤ 1000 := by decide) (hl0 : ys.length ≠ 0 := by decide) (hg : Gl X "isinstance" := by rfl) (hd : (n == ("__debug__" : Str)) = false := by decide) (hcd : (n == ("__classdict__" : Str)) = false := by decide) (hb : bootBuiltins "isinstance" = some (.builtin "isinstance") := by decide +kernel)
    (hs1 : starEach [.Name n p1, .Tuple es k p2] X.env = (false, eval (.Name n p1) X.env) :: starEach [.Tuple es k p2] X.env := by rfl) (hs2 : starEach [.Tuple es k p2] X.env = (false, eval (.Tuple es k p2) X.env) :: starEach [] X.env := by rfl) (hpl : (backTo pos (starEach [.Tuple es k p2] X.env)).any (·.1) = false := by rfl) :
    PE X (.Call (.Name "isinstance" p) [.Name n p1, .Tuple es k p2] [] pos) (tE G W (mIsET t c a i ys)) := by
  cases hg0 : mIsET.allM' (t.get c) ys with
  | none =>
    refine pe_no fun env h => ?_
    unfold mIsET
    split
    · split
      · rw [hg0]
      · rfl
    · rfl
  | some bs0 =>
  have C : ExcC X.K (G.C c) := by
    cases ys with
    | nil => exact absurd rfl hl0
    | cons y ys =>
      unfold mIsET.allM' at hg0
      split at hg0
      · rename_i b bs e1 e2
        exact (F.get e1).2
      · cases hg0
  exact PE.imp (pe_callB (call_isETP hp C hz hf) hg hm hb (pa_cons (pe_var hN hv hd hcd) (pa_cons (pe_tup hy.pa) pa_nil hs2) hs1) (by decide) (by decide) hs1 hpl) fun σ H Q ⟨et, env, h, hE, hH, hP⟩ => by
    unfold mIsET at hP
    split at hP
    · rename_i a' ha
      obtain ⟨v, e1, r⟩ := hE.2 i _ ha
      have ev : v = .ref a' := by simpa [Den] using r
      subst ev
      split at hP
      · rename_i ea
        subst ea
        split at hP
        · rename_i bs hb
          refine ⟨_, e1, sz (by rw [List.length_map]; omega), fun tp htp => ?_⟩
          exact ⟨tp, _, _, _, rfl, upd_same, paired_cls ys, kitAny_of F hb, hP et (upd H tp (.tup _)) List.prefix_rfl (Ext.new htp) (hH.new htp) _ (by simp)⟩
        · exact hP.elim
      · exact hP.elim
    · exact hP.elim
end
/-! ### products of wide numbers -/
def cMulW (i j : Int) : Bool := decide (i.natAbs < 2 ^ 600) && decide (j.natAbs < 2 ^ 600)
abbrev dMulW := dI cMulW fun i j => i * j
section
variable {X : Cx} {G : Cf} {W : WX} {a b : Expr} {ma mb : ME} {pos : Pos}
theorem me_mulW (ha : PE X a (tE G W ma)) (hb : PE X b (tE G W mb)) : PE X (.BinOp a .Mult b pos) (tE G W (mOp dMulW ma mb)) :=
  me_op op_mulX (opS_I fun i j c => by
    have c' : i.natAbs < 2 ^ 600 ∧ j.natAbs < 2 ^ 600 := by simpa only [cMulW, Bool.and_eq_true, decide_eq_true_eq] using c
    exact mulx_ok c'.1 c'.2 (by decide)) ha hb
end
theorem dMulW_int {i j : Int} {h : IH} (hi : i.natAbs < 2 ^ 600) (hj : j.natAbs < 2 ^ 600) : dMulW (.int i) (.int j) h = .ok (.int (i * j)) h := by
  have c : cMulW i j = true := by unfold cMulW; rw [Bool.and_eq_true]; exact ⟨decide_eq_true hi, decide_eq_true hj⟩
  exact if_pos c
end NR

set_option Elab.async false
set_option linter.all false
set_option maxRecDepth 100000
set_option maxHeartbeats 4000000
namespace NR
open PySem PySem.Spec PyProof.Rows L2
def topS (i : Nat) : Stmt := PySem.Challenge.pw_nearreach_k03_numbers_of_words.main.body.getD i (.Pass ⟨0, 0, 0, 0⟩)
def c_LONGEST : D := .int 60
def hT : CTab := [(("NoWord", "ReachError"), true)]
def iT : CTab := [(("NoWord", "Closed"), false), (("NoWord", "NoBook"), false), (("NoWord", "NoLine"), false), (("NoWord", "NoModes"), false), (("NoWord", "NoPlace"), false), (("NoWord", "NoQuote"), false), (("NoWord", "NoShape"), false), (("NoWord", "NoTable"), false), (("NoWord", "NoText"), false), (("NoWord", "NoWord"), true), (("NoWord", "Stopped"), false), (("NoWord", "TooHeavy"), false), (("NoWord", "TooMany"), false), (("NoWord", "Unlike"), false), (("NoWord", "ValueError"), true)]
/-! is_number -/
noncomputable def m_is_number : MF := fnM 1 (msRet (mAndV (mIs "int" (mVar 0)) (mNotV (mIs "bool" (mVar 0)))))
theorem sc_is_number : FnScope ["thing"] ["thing"] (defScope (topS 17)) := ⟨rfl, rfl, rfl, by decide +kernel, rfl, by decide +kernel, by decide +kernel⟩
theorem okf_is_number {P : Program} {w : World} {K : PySem.W.Frag} {mg : Str → Option Value} {base : Heap} {cl : Str → Addr} {f : Addr} {fd : FuncData} (F : Fun K "is_number" "is_number" (topS 17) f fd) (z_isinstance : mg "isinstance" = none) (z_int : mg "int" = none) (z_bool : mg "bool" = none) : FnOk P w K mg base (L2.CX P w) 1 f fd ["thing"] (FSp ⟨K, cl⟩ 1 m_is_number) :=
  fnPM F sc_is_number rfl fun cdv A outer s H E hr tk hp => mss_one (ms_ret (me_and (me_is rfl (me_var 0) z_isinstance z_int) (me_one (me_not (me_is rfl (me_var 0) z_isinstance z_bool)))))
theorem ok_is_number {P : Program} {w : World} {K : PySem.W.Frag} {mg : Str → Option Value} {base : Heap} {cl : Str → Addr} (d : DefAt K mg "is_number" (topS 17) ["thing"]) (z_isinstance : mg "isinstance" = none) (z_int : mg "int" = none) (z_bool : mg "bool" = none) : FnG P w K mg base ⟨K, cl⟩ "is_number" 1 1 m_is_number := d.fn fun f fd F => okf_is_number F z_isinstance z_int z_bool
/-! number_of -/
noncomputable def b_number_of_1 : MS := msSet 2 (mOp dAdd (mOp dAdd (mOp dMul (mVar 2) (mB bLen (mCons (mVar 0) (mNil)))) (mC (.int 1))) (mMeth "str" fFind (mVar 0) (mCons (mVar 3) (mNil))))
noncomputable def m_number_of : MF := fnM 4 (msCons (msSet 2 (mC (.int 0)))
    (msCons (msFor (iSeq (mVar 1)) (gSet 3) b_number_of_1)
    (msRet (mVar 2))))
theorem sc_number_of : FnScope ["tongue", "word", "found", "sign"] ["tongue", "word"] (defScope (topS 20)) := ⟨rfl, rfl, rfl, by decide +kernel, rfl, by decide +kernel, by decide +kernel⟩
theorem okf_number_of {P : Program} {w : World} {K : PySem.W.Frag} {mg : Str → Option Value} {base : Heap} {cl : Str → Addr} {f : Addr} {fd : FuncData} (F : Fun K "number_of" "number_of" (topS 20) f fd) (z_len : mg "len" = none) : FnOk P w K mg base (L2.CX P w) 1 f fd ["tongue", "word"] (FSp ⟨K, cl⟩ 2 m_number_of) :=
  fnPM F sc_number_of rfl fun cdv A outer s H E hr tk hp => mss_cons (ms_set 2 sc_number_of.nd (me_int))
    (mss_cons (ms_for rfl hp (mi_seq rfl (me_var 1)) (mg_name 3 sc_number_of.nd) (mss_one (ms_set 2 sc_number_of.nd (me_add rfl (me_add rfl (me_mul rfl (me_var 2) (me_callB call_lenA bLen_ok z_len (by decide +kernel) (ma_cons (me_var 0) (ma_nil)))) (me_int)) (me_meth rfl PySem.F.plainAttrs_str PySem.F.slot_str_find PySem.F.type_str_find mt_find fFind_ok (me_var 0) (ma_cons (me_var 3) (ma_nil)))))))
    (mss_one (ms_ret (me_var 2))))
theorem ok_number_of {P : Program} {w : World} {K : PySem.W.Frag} {mg : Str → Option Value} {base : Heap} {cl : Str → Addr} (d : DefAt K mg "number_of" (topS 20) ["tongue", "word"]) (z_len : mg "len" = none) : FnG P w K mg base ⟨K, cl⟩ "number_of" 1 2 m_number_of := d.fn fun f fd F => okf_number_of F z_len
/-! _law_pen -/
noncomputable def m__law_pen : MF := fnM 1 (msRet (mLst (mCons (mFz (mSlice (mVar 0) (moNone) (moSome (mC (.int 63))))) (mCons (mC (.int 0)) (mCons (mC (.int 0)) (mNil))))))
theorem sc__law_pen : FnScope ["_law_script"] ["_law_script"] (defScope (topS 23)) := ⟨rfl, rfl, rfl, by decide +kernel, rfl, by decide +kernel, by decide +kernel⟩
theorem okf__law_pen {P : Program} {w : World} {K : PySem.W.Frag} {mg : Str → Option Value} {base : Heap} {cl : Str → Addr} {f : Addr} {fd : FuncData} (F : Fun K "_law_pen" "_law_pen" (topS 23) f fd) : FnOk P w K mg base (L2.CX P w) 1 f fd ["_law_script"] (FSp ⟨K, cl⟩ 1 m__law_pen) :=
  fnPM F sc__law_pen rfl fun cdv A outer s H E hr tk hp => mss_one (ms_ret (me_lst (ma_cons (me_fz (me_slice rfl (me_var 0) (moN) (moS (me_int)))) (ma_cons (me_int) (ma_cons (me_int) (ma_nil))))))
theorem ok__law_pen {P : Program} {w : World} {K : PySem.W.Frag} {mg : Str → Option Value} {base : Heap} {cl : Str → Addr} (d : DefAt K mg "_law_pen" (topS 23) ["_law_script"]) : FnG P w K mg base ⟨K, cl⟩ "_law_pen" 1 1 m__law_pen := d.fn fun f fd F => okf__law_pen F
/-! _law_take -/
noncomputable def m__law_take : MF := fnM 7 (msCons (msIf (mTb (mOp dGt (mOp dIx (mVar 0) (mC (.int 2))) (mC (.int 0)))) (msCons (msSet 2 (mOp dMod (mOp dIx (mVar 0) (mC (.int 2))) (mVar 1)))
    (msCons (msSetI (mVar 0) (mC (.int 2)) (mOp dDiv (mOp dIx (mVar 0) (mC (.int 2))) (mVar 1)))
    (msRet (mVar 2)))) (msNil))
    (msCons (msSet 3 (mOp dIx (mVar 0) (mC (.int 1))))
    (msCons (msSetI (mVar 0) (mC (.int 1)) (mOp dAdd (mVar 3) (mC (.int 1))))
    (msCons (msSet 4 (mC (.int 5)))
    (msCons (msIf (mTb (mOp dGt (mB bLen (mCons (mOp dIx (mVar 0) (mC (.int 0))) (mNil))) (mC (.int 0)))) (msSet 4 (mOp dIx (mOp dIx (mVar 0) (mC (.int 0))) (mOp dMod (mVar 3) (mB bLen (mCons (mOp dIx (mVar 0) (mC (.int 0))) (mNil)))))) (msNil))
    (msCons (msIf (mAnd (mTb (mOp dLt (mVar 3) (mB bLen (mCons (mOp dIx (mVar 0) (mC (.int 0))) (mNil))))) (mTb (mOp dGe (mB bAbs (mCons (mVar 4) (mNil))) (mOp dPow (mC (.int 10)) (mC (.int 18)))))) (msCons (msSet 5 (mOp dAdd (mOp dMul (mC (.int 2)) (mB bAbs (mCons (mVar 4) (mNil)))) (mB bInt1 (mCons (mOp dLt (mVar 4) (mC (.int 0))) (mNil)))))
    (msCons (msSetI (mVar 0) (mC (.int 2)) (mOp dDiv (mVar 5) (mVar 1)))
    (msRet (mOp dMod (mVar 5) (mVar 1))))) (msNil))
    (msCons (msSet 6 (mOp dMod (mOp dPow (mOp dAdd (mOp dAdd (mOp dMod (mVar 4) (mC (.int 2147483587))) (mOp dMul (mC (.int 40709)) (mVar 3))) (mC (.int 31))) (mC (.int 3))) (mC (.int 2147483647))))
    (msCons (msSet 6 (mOp dMod (mOp dAdd (mOp dAdd (mOp dMul (mVar 6) (mVar 6)) (mOp dMul (mC (.int 48271)) (mVar 6))) (mVar 3)) (mC (.int 2147483629))))
    (msRet (mOp dMod (mOp dDiv (mVar 6) (mC (.int 64))) (mVar 1)))))))))))
theorem sc__law_take : FnScope ["_law_pen_here", "_law_many", "_law_found", "_law_at", "_law_cell", "_law_great", "_law_number_here"] ["_law_pen_here", "_law_many"] (defScope (topS 24)) := ⟨rfl, rfl, rfl, by decide +kernel, rfl, by decide +kernel, by decide +kernel⟩
theorem okf__law_take {P : Program} {w : World} {K : PySem.W.Frag} {mg : Str → Option Value} {base : Heap} {cl : Str → Addr} {f : Addr} {fd : FuncData} (F : Fun K "_law_take" "_law_take" (topS 24) f fd) (z_len : mg "len" = none) (z_abs : mg "abs" = none) (z_int : mg "int" = none) : FnOk P w K mg base (L2.CX P w) 1 f fd ["_law_pen_here", "_law_many"] (FSp ⟨K, cl⟩ 2 m__law_take) :=
  fnPM F sc__law_take rfl fun cdv A outer s H E hr tk hp => mss_cons (ms_if (mt_cmp op_gt opS_C (me_ix rfl (me_var 0) (me_int)) (me_int)) (mss_cons (ms_set 2 sc__law_take.nd (me_mod (me_ix rfl (me_var 0) (me_int)) (me_var 1)))
    (mss_cons (ms_setI (me_div (me_ix rfl (me_var 0) (me_int)) (me_var 1)) (me_var 0) (me_int))
    (mss_one (ms_ret (me_var 2))))) (mss_nil))
    (mss_cons (ms_set 3 sc__law_take.nd (me_ix rfl (me_var 0) (me_int)))
    (mss_cons (ms_setI (me_add rfl (me_var 3) (me_int)) (me_var 0) (me_int))
    (mss_cons (ms_set 4 sc__law_take.nd (me_int))
    (mss_cons (ms_if (mt_cmp op_gt opS_C (me_callB call_lenA bLen_ok z_len (by decide +kernel) (ma_cons (me_ix rfl (me_var 0) (me_int)) (ma_nil))) (me_int)) (mss_one (ms_set 4 sc__law_take.nd (me_ix rfl (me_ix rfl (me_var 0) (me_int)) (me_mod (me_var 3) (me_callB call_lenA bLen_ok z_len (by decide +kernel) (ma_cons (me_ix rfl (me_var 0) (me_int)) (ma_nil))))))) (mss_nil))
    (mss_cons (ms_if (mt_w (mw_and (mt_cmp op_lt opS_C (me_var 3) (me_callB call_lenA bLen_ok z_len (by decide +kernel) (ma_cons (me_ix rfl (me_var 0) (me_int)) (ma_nil)))) (mw_and1 (mt_cmp op_ge opS_C (me_callB call_abs bAbs_ok z_abs (by decide +kernel) (ma_cons (me_var 4) (ma_nil))) (me_pow (me_int) (me_int)))))) (mss_cons (ms_set 5 sc__law_take.nd (me_add rfl (me_mul rfl (me_int) (me_callB call_abs bAbs_ok z_abs (by decide +kernel) (ma_cons (me_var 4) (ma_nil)))) (me_callT call_int1 bInt1_ok z_int (by decide +kernel) (ma_cons (me_cmp op_lt opS_C (me_var 4) (me_int)) (ma_nil)))))
    (mss_cons (ms_setI (me_div (me_var 5) (me_var 1)) (me_var 0) (me_int))
    (mss_one (ms_ret (me_mod (me_var 5) (me_var 1)))))) (mss_nil))
    (mss_cons (ms_set 6 sc__law_take.nd (me_mod (me_pow (me_add rfl (me_add rfl (me_mod (me_var 4) (me_int)) (me_mul rfl (me_int) (me_var 3))) (me_int)) (me_int)) (me_int)))
    (mss_cons (ms_set 6 sc__law_take.nd (me_mod (me_add rfl (me_add rfl (me_mul rfl (me_var 6) (me_var 6)) (me_mul rfl (me_int) (me_var 6))) (me_var 3)) (me_int)))
    (mss_one (ms_ret (me_mod (me_div (me_var 6) (me_int)) (me_var 1)))))))))))
theorem ok__law_take {P : Program} {w : World} {K : PySem.W.Frag} {mg : Str → Option Value} {base : Heap} {cl : Str → Addr} (d : DefAt K mg "_law_take" (topS 24) ["_law_pen_here", "_law_many"]) (z_len : mg "len" = none) (z_abs : mg "abs" = none) (z_int : mg "int" = none) : FnG P w K mg base ⟨K, cl⟩ "_law_take" 1 2 m__law_take := d.fn fun f fd F => okf__law_take F z_len z_abs z_int
/-! _law_signs -/
noncomputable def m__law_signs : MF := fnM 1 (msCons (msSet 0 (mC (.str [32, 33, 34, 35, 36, 38, 39, 40, 41, 42, 43, 44, 45, 46, 47, 48, 49, 50, 51, 52, 53, 54, 55, 56, 57, 58, 59, 60, 61, 62, 63, 64, 65, 66, 67, 68, 69, 70, 71, 72, 73, 74, 75, 76, 77, 78, 79, 80, 81, 82, 83, 84, 85, 86, 87, 88, 89, 90, 91, 92, 93, 94, 95, 96])))
    (msRet (mOp dAdd (mVar 0) (mC (.str [97, 98, 99, 100, 101, 102, 103, 104, 105, 106, 107, 108, 109, 110, 111, 112, 113, 114, 115, 116, 117, 118, 119, 120, 121, 122, 123, 124, 125, 126, 10])))))
theorem sc__law_signs : FnScope ["_law_some_here"] [] (defScope (topS 25)) := ⟨rfl, rfl, rfl, by decide +kernel, rfl, by decide +kernel, by decide +kernel⟩
theorem okf__law_signs {P : Program} {w : World} {K : PySem.W.Frag} {mg : Str → Option Value} {base : Heap} {cl : Str → Addr} {f : Addr} {fd : FuncData} (F : Fun K "_law_signs" "_law_signs" (topS 25) f fd) : FnOk P w K mg base (L2.CX P w) 1 f fd [] (FSp ⟨K, cl⟩ 0 m__law_signs) :=
  fnPM F sc__law_signs rfl fun cdv A outer s H E hr tk hp => mss_cons (ms_set 0 sc__law_signs.nd (me_str [32, 33, 34, 35, 36, 38, 39, 40, 41, 42, 43, 44, 45, 46, 47, 48, 49, 50, 51, 52, 53, 54, 55, 56, 57, 58, 59, 60, 61, 62, 63, 64, 65, 66, 67, 68, 69, 70, 71, 72, 73, 74, 75, 76, 77, 78, 79, 80, 81, 82, 83, 84, 85, 86, 87, 88, 89, 90, 91, 92, 93, 94, 95, 96]))
    (mss_one (ms_ret (me_add rfl (me_var 0) (me_str [97, 98, 99, 100, 101, 102, 103, 104, 105, 106, 107, 108, 109, 110, 111, 112, 113, 114, 115, 116, 117, 118, 119, 120, 121, 122, 123, 124, 125, 126, 10]))))
theorem ok__law_signs {P : Program} {w : World} {K : PySem.W.Frag} {mg : Str → Option Value} {base : Heap} {cl : Str → Addr} (d : DefAt K mg "_law_signs" (topS 25) []) : FnG P w K mg base ⟨K, cl⟩ "_law_signs" 1 0 m__law_signs := d.fn fun f fd F => okf__law_signs F
/-! _law_others -/
noncomputable def m__law_others (c : Str) (a : Nat) : MF := fnM 1 (msCons (msIf (mTr (mIsET iT c a 0 ["Closed", "NoBook", "NoLine", "NoModes", "NoPlace", "NoQuote", "NoShape", "NoTable"])) (msRet (mC (.bl true))) (msNil))
    (msRet (mOrV (mIsET iT c a 0 ["NoText", "Stopped", "TooHeavy", "TooMany", "Unlike"]) (mNotV (mIsE iT c a 0 "ValueError")))))
theorem sc__law_others : FnScope ["_law_e"] ["_law_e"] (defScope (topS 29)) := ⟨rfl, rfl, rfl, by decide +kernel, rfl, by decide +kernel, by decide +kernel⟩
theorem okf__law_others {P : Program} {w : World} {K : PySem.W.Frag} {mg : Str → Option Value} {base : Heap} {cl : Str → Addr} {f : Addr} {fd : FuncData} (F : Fun K "_law_others" "_law_others" (topS 29) f fd) (z_isinstance : mg "isinstance" = none) (z_ValueError : mg "ValueError" = none) (m_Closed : mg "Closed" = some (.ref (cl "Closed"))) (m_NoBook : mg "NoBook" = some (.ref (cl "NoBook"))) (m_NoLine : mg "NoLine" = some (.ref (cl "NoLine"))) (m_NoModes : mg "NoModes" = some (.ref (cl "NoModes"))) (m_NoPlace : mg "NoPlace" = some (.ref (cl "NoPlace"))) (m_NoQuote : mg "NoQuote" = some (.ref (cl "NoQuote"))) (m_NoShape : mg "NoShape" = some (.ref (cl "NoShape"))) (m_NoTable : mg "NoTable" = some (.ref (cl "NoTable"))) (m_NoText : mg "NoText" = some (.ref (cl "NoText"))) (m_Stopped : mg "Stopped" = some (.ref (cl "Stopped"))) (m_TooHeavy : mg "TooHeavy" = some (.ref (cl "TooHeavy"))) (m_TooMany : mg "TooMany" = some (.ref (cl "TooMany"))) (m_Unlike : mg "Unlike" = some (.ref (cl "Unlike"))) (F_iT : ExI K cl iT) (c : Str) (a : Addr) (oe : Obj) (hz : Zc (.ref (cl c)) none oe) (hf : ∃ vs, oe.data = .fields vs) : FnOkP P w K mg base (L2.CX P w) (a, oe) 1 f fd ["_law_e"] (FSp ⟨K, cl⟩ 1 (m__law_others c a)) :=
  fnPMP F sc__law_others rfl fun cdv A outer s H E tk => mss_cons (ms_if (mt_val rfl (me_isETP 0 hz hf List.mem_cons_self F_iT z_isinstance (.own rfl m_Closed (by decide) (by decide) (.own rfl m_NoBook (by decide) (by decide) (.own rfl m_NoLine (by decide) (by decide) (.own rfl m_NoModes (by decide) (by decide) (.own rfl m_NoPlace (by decide) (by decide) (.own rfl m_NoQuote (by decide) (by decide) (.own rfl m_NoShape (by decide) (by decide) (.own rfl m_NoTable (by decide) (by decide) (.nil))))))))))) (mss_one (ms_ret (me_bl))) (mss_nil))
    (mss_one (ms_ret (me_or (me_isETP 0 hz hf List.mem_cons_self F_iT z_isinstance (.own rfl m_NoText (by decide) (by decide) (.own rfl m_Stopped (by decide) (by decide) (.own rfl m_TooHeavy (by decide) (by decide) (.own rfl m_TooMany (by decide) (by decide) (.own rfl m_Unlike (by decide) (by decide) (.nil))))))) (me_one (me_not (me_isEP 0 hz hf List.mem_cons_self F_iT z_isinstance (.val rfl z_ValueError (.nil))))))))
theorem ok__law_others {P : Program} {w : World} {K : PySem.W.Frag} {mg : Str → Option Value} {base : Heap} {cl : Str → Addr} (d : DefAt K mg "_law_others" (topS 29) ["_law_e"]) (z_isinstance : mg "isinstance" = none) (z_ValueError : mg "ValueError" = none) (m_Closed : mg "Closed" = some (.ref (cl "Closed"))) (m_NoBook : mg "NoBook" = some (.ref (cl "NoBook"))) (m_NoLine : mg "NoLine" = some (.ref (cl "NoLine"))) (m_NoModes : mg "NoModes" = some (.ref (cl "NoModes"))) (m_NoPlace : mg "NoPlace" = some (.ref (cl "NoPlace"))) (m_NoQuote : mg "NoQuote" = some (.ref (cl "NoQuote"))) (m_NoShape : mg "NoShape" = some (.ref (cl "NoShape"))) (m_NoTable : mg "NoTable" = some (.ref (cl "NoTable"))) (m_NoText : mg "NoText" = some (.ref (cl "NoText"))) (m_Stopped : mg "Stopped" = some (.ref (cl "Stopped"))) (m_TooHeavy : mg "TooHeavy" = some (.ref (cl "TooHeavy"))) (m_TooMany : mg "TooMany" = some (.ref (cl "TooMany"))) (m_Unlike : mg "Unlike" = some (.ref (cl "Unlike"))) (F_iT : ExI K cl iT) : FnGP P w K mg base ⟨K, cl⟩ "_law_others" 1 1 m__law_others := d.fnGP fun f fd F => okf__law_others F z_isinstance z_ValueError m_Closed m_NoBook m_NoLine m_NoModes m_NoPlace m_NoQuote m_NoShape m_NoTable m_NoText m_Stopped m_TooHeavy m_TooMany m_Unlike F_iT
/-! _law_shorter -/
noncomputable def b__law_shorter_1 : MS := msCons (msSet 2 (mFz (mOp dAdd (mVar 2) (mVar 3))))
    (msSet 3 (mOp dMul (mVar 3) (mB bLen (mCons (mVar 0) (mNil)))))
noncomputable def m__law_shorter : MF := fnM 5 (msCons (msSet 2 (mC (.int 0)))
    (msCons (msSet 3 (mC (.int 1)))
    (msCons (msFor (iRange1 (mCons (mVar 1) (mNil))) (gSet 4) b__law_shorter_1)
    (msRet (mTup (mCons (mVar 2) (mCons (mVar 3) (mNil))))))))
theorem sc__law_shorter : FnScope ["_law_tongue", "_law_size", "_law_found", "_law_many", "_law_k"] ["_law_tongue", "_law_size"] (defScope (topS 31)) := ⟨rfl, rfl, rfl, by decide +kernel, rfl, by decide +kernel, by decide +kernel⟩
theorem okf__law_shorter {P : Program} {w : World} {K : PySem.W.Frag} {mg : Str → Option Value} {base : Heap} {cl : Str → Addr} {f : Addr} {fd : FuncData} (F : Fun K "_law_shorter" "_law_shorter" (topS 31) f fd) (z_range : mg "range" = none) (z_len : mg "len" = none) : FnOk P w K mg base (L2.CX P w) 1 f fd ["_law_tongue", "_law_size"] (FSp ⟨K, cl⟩ 2 m__law_shorter) :=
  fnPM F sc__law_shorter rfl fun cdv A outer s H E hr tk hp => mss_cons (ms_set 2 sc__law_shorter.nd (me_int))
    (mss_cons (ms_set 3 sc__law_shorter.nd (me_int))
    (mss_cons (ms_for rfl hp (mi_range1 (ma_cons (me_var 1) (ma_nil)) z_range) (mg_name 4 sc__law_shorter.nd) (mss_cons (ms_set 2 sc__law_shorter.nd (me_fz (me_add rfl (me_var 2) (me_var 3))))
    (mss_one (ms_set 3 sc__law_shorter.nd (me_mul rfl (me_var 3) (me_callB call_lenA bLen_ok z_len (by decide +kernel) (ma_cons (me_var 0) (ma_nil))))))))
    (mss_one (ms_ret (me_tup (ma_cons (me_var 2) (ma_cons (me_var 3) (ma_nil))))))))
theorem ok__law_shorter {P : Program} {w : World} {K : PySem.W.Frag} {mg : Str → Option Value} {base : Heap} {cl : Str → Addr} (d : DefAt K mg "_law_shorter" (topS 31) ["_law_tongue", "_law_size"]) (z_range : mg "range" = none) (z_len : mg "len" = none) : FnG P w K mg base ⟨K, cl⟩ "_law_shorter" 1 2 m__law_shorter := d.fn fun f fd F => okf__law_shorter F z_range z_len
/-! _law_next -/
noncomputable def t__law_next_1 : MT := mAnd (mTb (mOp dGt (mVar 2) (mC (.int 0)))) (mTb (mOp (dEq false) (mOp dIx (mVar 1) (mOp dSub (mVar 2) (mC (.int 1)))) (mOp dIx (mVar 0) (mNeg (mC (.int 1))))))
noncomputable def b__law_next_2 : MS := msSet 2 (mOp dSub (mVar 2) (mC (.int 1)))
noncomputable def m__law_next : MF := fnM 4 (msCons (msSet 2 (mB bLen (mCons (mVar 1) (mNil))))
    (msCons (msWhile t__law_next_1 b__law_next_2)
    (msCons (msIf (mTb (mOp (dEq false) (mVar 2) (mC (.int 0)))) (msRet (mOp dMul (mOp dIx (mVar 0) (mC (.int 0))) (mOp dAdd (mB bLen (mCons (mVar 1) (mNil))) (mC (.int 1))))) (msNil))
    (msCons (msSet 3 (mOp dIx (mVar 0) (mOp dAdd (mMeth "str" fFind (mVar 0) (mCons (mOp dIx (mVar 1) (mOp dSub (mVar 2) (mC (.int 1)))) (mNil))) (mC (.int 1)))))
    (msRet (mOp dAdd (mFz (mOp dAdd (mFz (mSlice (mVar 1) (moNone) (moSome (mOp dSub (mVar 2) (mC (.int 1)))))) (mVar 3))) (mOp dMul (mOp dIx (mVar 0) (mC (.int 0))) (mOp dSub (mB bLen (mCons (mVar 1) (mNil))) (mVar 2)))))))))
theorem sc__law_next : FnScope ["_law_tongue", "_law_word_here", "_law_at", "_law_later"] ["_law_tongue", "_law_word_here"] (defScope (topS 33)) := ⟨rfl, rfl, rfl, by decide +kernel, rfl, by decide +kernel, by decide +kernel⟩
theorem okf__law_next {P : Program} {w : World} {K : PySem.W.Frag} {mg : Str → Option Value} {base : Heap} {cl : Str → Addr} {f : Addr} {fd : FuncData} (F : Fun K "_law_next" "_law_next" (topS 33) f fd) (z_len : mg "len" = none) : FnOk P w K mg base (L2.CX P w) 1 f fd ["_law_tongue", "_law_word_here"] (FSp ⟨K, cl⟩ 2 m__law_next) :=
  fnPM F sc__law_next rfl fun cdv A outer s H E hr tk hp => mss_cons (ms_set 2 sc__law_next.nd (me_callB call_lenA bLen_ok z_len (by decide +kernel) (ma_cons (me_var 1) (ma_nil))))
    (mss_cons (ms_while hp (mt_w (mw_and (mt_cmp op_gt opS_C (me_var 2) (me_int)) (mw_and1 (mt_cmp (op_eqP hr.units) (dEq_ok rfl) (me_ix rfl (me_var 1) (me_sub (me_var 2) (me_int))) (me_ix rfl (me_var 0) (me_neg (me_int))))))) (mss_one (ms_set 2 sc__law_next.nd (me_sub (me_var 2) (me_int)))))
    (mss_cons (ms_if (mt_cmp (op_eqP hr.units) (dEq_ok rfl) (me_var 2) (me_int)) (mss_one (ms_ret (me_mul rfl (me_ix rfl (me_var 0) (me_int)) (me_add rfl (me_callB call_lenA bLen_ok z_len (by decide +kernel) (ma_cons (me_var 1) (ma_nil))) (me_int))))) (mss_nil))
    (mss_cons (ms_set 3 sc__law_next.nd (me_ix rfl (me_var 0) (me_add rfl (me_meth rfl PySem.F.plainAttrs_str PySem.F.slot_str_find PySem.F.type_str_find mt_find fFind_ok (me_var 0) (ma_cons (me_ix rfl (me_var 1) (me_sub (me_var 2) (me_int))) (ma_nil))) (me_int))))
    (mss_one (ms_ret (me_add rfl (me_fz (me_add rfl (me_fz (me_slice rfl (me_var 1) (moN) (moS (me_sub (me_var 2) (me_int))))) (me_var 3))) (me_mul rfl (me_ix rfl (me_var 0) (me_int)) (me_sub (me_callB call_lenA bLen_ok z_len (by decide +kernel) (ma_cons (me_var 1) (ma_nil))) (me_var 2)))))))))
theorem ok__law_next {P : Program} {w : World} {K : PySem.W.Frag} {mg : Str → Option Value} {base : Heap} {cl : Str → Addr} (d : DefAt K mg "_law_next" (topS 33) ["_law_tongue", "_law_word_here"]) (z_len : mg "len" = none) : FnG P w K mg base ⟨K, cl⟩ "_law_next" 1 2 m__law_next := d.fn fun f fd F => okf__law_next F z_len
/-! word_at -/
noncomputable def t_word_at_1 : MT := mTb (mOp dGt (mVar 1) (mC (.int 0)))
noncomputable def b_word_at_2 : MS := msCons (msIf (mTb (mOp (dEq false) (mB bLen (mCons (mVar 2) (mNil))) (mC c_LONGEST))) (msRaise "NoWord") (msNil))
    (msCons (msSet 2 (mFz (mOp dAdd (mOp dIx (mVar 0) (mOp dMod (mOp dSub (mVar 1) (mC (.int 1))) (mB bLen (mCons (mVar 0) (mNil))))) (mVar 2))))
    (msSet 1 (mOp dDiv (mOp dSub (mVar 1) (mC (.int 1))) (mB bLen (mCons (mVar 0) (mNil))))))
noncomputable def m_word_at : MF := fnM 3 (msCons (msIf (mOr (mNot (mTr (mCall 1 (m_is_number) (mCons (mVar 1) (mNil))))) (mTb (mOp dLt (mVar 1) (mC (.int 0))))) (msRaise "NoWord") (msNil))
    (msCons (msSet 2 (mC (.str [])))
    (msCons (msWhile t_word_at_1 b_word_at_2)
    (msRet (mVar 2)))))
theorem sc_word_at : FnScope ["tongue", "number", "found"] ["tongue", "number"] (defScope (topS 21)) := ⟨rfl, rfl, rfl, by decide +kernel, rfl, by decide +kernel, by decide +kernel⟩
theorem okf_word_at {P : Program} {w : World} {K : PySem.W.Frag} {mg : Str → Option Value} {base : Heap} {cl : Str → Addr} {f : Addr} {fd : FuncData} (F : Fun K "word_at" "word_at" (topS 21) f fd) (z_len : mg "len" = none) (g_LONGEST : GlC mg "LONGEST" c_LONGEST) (x_NoWord : ExC1 K mg "NoWord" (cl "NoWord")) (F_is_number : FnG P w K mg base ⟨K, cl⟩ "is_number" 1 1 m_is_number) : FnOk P w K mg base (L2.CX P w) 2 f fd ["tongue", "number"] (FSp ⟨K, cl⟩ 2 m_word_at) :=
  fnPM F sc_word_at rfl fun cdv A outer s H E hr tk hp => mss_cons (ms_if (mt_w (mw_or (mt_not (mt_val rfl (me_callG F_is_number hr (by decide) tk (ma_cons (me_var 1) (ma_nil))))) (mw_or1 (mt_cmp op_lt opS_C (me_var 1) (me_int))))) (mss_one (ms_raise rfl tk x_NoWord)) (mss_nil))
    (mss_cons (ms_set 2 sc_word_at.nd (me_str []))
    (mss_cons (ms_while hp (mt_cmp op_gt opS_C (me_var 1) (me_int)) (mss_cons (ms_if (mt_cmp (op_eqP hr.units) (dEq_ok rfl) (me_callB call_lenA bLen_ok z_len (by decide +kernel) (ma_cons (me_var 2) (ma_nil))) (me_globG g_LONGEST)) (mss_one (ms_raise rfl tk x_NoWord)) (mss_nil))
    (mss_cons (ms_set 2 sc_word_at.nd (me_fz (me_add rfl (me_ix rfl (me_var 0) (me_mod (me_sub (me_var 1) (me_int)) (me_callB call_lenA bLen_ok z_len (by decide +kernel) (ma_cons (me_var 0) (ma_nil))))) (me_var 2))))
    (mss_one (ms_set 1 sc_word_at.nd (me_div (me_sub (me_var 1) (me_int)) (me_callB call_lenA bLen_ok z_len (by decide +kernel) (ma_cons (me_var 0) (ma_nil)))))))))
    (mss_one (ms_ret (me_var 2)))))
theorem ok_word_at {P : Program} {w : World} {K : PySem.W.Frag} {mg : Str → Option Value} {base : Heap} {cl : Str → Addr} (d : DefAt K mg "word_at" (topS 21) ["tongue", "number"]) (z_len : mg "len" = none) (g_LONGEST : GlC mg "LONGEST" c_LONGEST) (x_NoWord : ExC1 K mg "NoWord" (cl "NoWord")) (F_is_number : FnG P w K mg base ⟨K, cl⟩ "is_number" 1 1 m_is_number) : FnG P w K mg base ⟨K, cl⟩ "word_at" 2 2 m_word_at := d.fn fun f fd F => okf_word_at F z_len g_LONGEST x_NoWord F_is_number
/-! _law_some -/
noncomputable def b__law_some_1 : MS := msCons (msSet 5 (mCall 2 (m__law_take) (mCons (mVar 0) (mCons (mB bLen (mCons (mVar 1) (mNil))) (mNil)))))
    (msCons (msSet 3 (mFz (mOp dAdd (mVar 3) (mOp dIx (mVar 1) (mVar 5)))))
    (msSet 1 (mFz (mOp dAdd (mFz (mSlice (mVar 1) (moNone) (moSome (mVar 5)))) (mFz (mSlice (mVar 1) (moSome (mOp dAdd (mVar 5) (mC (.int 1)))) (moNone)))))))
noncomputable def m__law_some : MF := fnM 6 (msCons (msSet 3 (mC (.str [])))
    (msCons (msFor (iRange1 (mCons (mOp dAdd (mC (.int 1)) (mCall 2 (m__law_take) (mCons (mVar 0) (mCons (mVar 2) (mNil))))) (mNil))) (gSet 4) b__law_some_1)
    (msRet (mVar 3))))
theorem sc__law_some : FnScope ["_law_pen_here", "_law_rest", "_law_most", "_law_found", "_law_k", "_law_at"] ["_law_pen_here", "_law_rest", "_law_most"] (defScope (topS 26)) := ⟨rfl, rfl, rfl, by decide +kernel, rfl, by decide +kernel, by decide +kernel⟩
theorem okf__law_some {P : Program} {w : World} {K : PySem.W.Frag} {mg : Str → Option Value} {base : Heap} {cl : Str → Addr} {f : Addr} {fd : FuncData} (F : Fun K "_law_some" "_law_some" (topS 26) f fd) (z_range : mg "range" = none) (z_len : mg "len" = none) (F__law_take : FnG P w K mg base ⟨K, cl⟩ "_law_take" 1 2 m__law_take) : FnOk P w K mg base (L2.CX P w) 2 f fd ["_law_pen_here", "_law_rest", "_law_most"] (FSp ⟨K, cl⟩ 3 m__law_some) :=
  fnPM F sc__law_some rfl fun cdv A outer s H E hr tk hp => mss_cons (ms_set 3 sc__law_some.nd (me_str []))
    (mss_cons (ms_for rfl hp (mi_range1 (ma_cons (me_add rfl (me_int) (me_callG F__law_take hr (by decide) tk (ma_cons (me_var 0) (ma_cons (me_var 2) (ma_nil))))) (ma_nil)) z_range) (mg_name 4 sc__law_some.nd) (mss_cons (ms_set 5 sc__law_some.nd (me_callG F__law_take hr (by decide) tk (ma_cons (me_var 0) (ma_cons (me_callB call_lenA bLen_ok z_len (by decide +kernel) (ma_cons (me_var 1) (ma_nil))) (ma_nil)))))
    (mss_cons (ms_set 3 sc__law_some.nd (me_fz (me_add rfl (me_var 3) (me_ix rfl (me_var 1) (me_var 5)))))
    (mss_one (ms_set 1 sc__law_some.nd (me_fz (me_add rfl (me_fz (me_slice rfl (me_var 1) (moN) (moS (me_var 5)))) (me_fz (me_slice rfl (me_var 1) (moS (me_add rfl (me_var 5) (me_int))) (moN))))))))))
    (mss_one (ms_ret (me_var 3))))
theorem ok__law_some {P : Program} {w : World} {K : PySem.W.Frag} {mg : Str → Option Value} {base : Heap} {cl : Str → Addr} (d : DefAt K mg "_law_some" (topS 26) ["_law_pen_here", "_law_rest", "_law_most"]) (z_range : mg "range" = none) (z_len : mg "len" = none) (F__law_take : FnG P w K mg base ⟨K, cl⟩ "_law_take" 1 2 m__law_take) : FnG P w K mg base ⟨K, cl⟩ "_law_some" 2 3 m__law_some := d.fn fun f fd F => okf__law_some F z_range z_len F__law_take
/-! _law_word -/
noncomputable def e__law_word_1 : ME := mOp dIx (mVar 1) (mCall 2 (m__law_take) (mCons (mVar 0) (mCons (mB bLen (mCons (mVar 1) (mNil))) (mNil))))
noncomputable def m__law_word : MF := fnM 5 (msCons (msSet 3 (mCall 2 (m__law_take) (mCons (mVar 0) (mCons (mOp dAdd (mVar 2) (mC (.int 1))) (mNil)))))
    (msRet (mMeth "str" fJoin (mC (.str [])) (mCons (mFz (mLc (iRange1 (mCons (mVar 3) (mNil))) (gSet 4) mYes e__law_word_1 [4])) (mNil)))))
theorem sc__law_word : FnScope ["_law_pen_here", "_law_tongue", "_law_most", "_law_size", "_law_k"] ["_law_pen_here", "_law_tongue", "_law_most"] (defScope (topS 27)) := ⟨rfl, rfl, rfl, by decide +kernel, rfl, by decide +kernel, by decide +kernel⟩
theorem okf__law_word {P : Program} {w : World} {K : PySem.W.Frag} {mg : Str → Option Value} {base : Heap} {cl : Str → Addr} {f : Addr} {fd : FuncData} (F : Fun K "_law_word" "_law_word" (topS 27) f fd) (z_range : mg "range" = none) (z_len : mg "len" = none) (F__law_take : FnG P w K mg base ⟨K, cl⟩ "_law_take" 1 2 m__law_take) : FnOk P w K mg base (L2.CX P w) 2 f fd ["_law_pen_here", "_law_tongue", "_law_most"] (FSp ⟨K, cl⟩ 3 m__law_word) :=
  fnPM F sc__law_word rfl fun cdv A outer s H E hr tk hp => mss_cons (ms_set 3 sc__law_word.nd (me_callG F__law_take hr (by decide) tk (ma_cons (me_var 0) (ma_cons (me_add rfl (me_var 2) (me_int)) (ma_nil)))))
    (mss_one (ms_ret (me_meth rfl PySem.F.plainAttrs_str PySem.F.slot_str_join PySem.F.type_str_join mt_join fJoin_ok (me_str []) (ma_cons (me_fz (me_lc (own := [("_law_k", 4)]) rfl sc__law_word.nd (mi_range1 (ma_cons (me_var 3) (ma_nil)) z_range) (blkOk_by (N := ["_law_pen_here", "_law_tongue", "_law_most", "_law_size", "_law_k"]) (sc := defScope (topS 27)) (by decide +kernel)) (fun _ _ _ _ _ => mg_name 4 sc__law_word.nd) (fun _ _ _ _ _ => mts_nil) (fun _ _ _ _ _ => me_ix rfl (me_var 1) (me_callG F__law_take hr (by decide) takes0 (ma_cons (me_var 0) (ma_cons (me_callB call_lenA bLen_ok z_len (by decide +kernel) (ma_cons (me_var 1) (ma_nil))) (ma_nil))))))) (ma_nil)))))
theorem ok__law_word {P : Program} {w : World} {K : PySem.W.Frag} {mg : Str → Option Value} {base : Heap} {cl : Str → Addr} (d : DefAt K mg "_law_word" (topS 27) ["_law_pen_here", "_law_tongue", "_law_most"]) (z_range : mg "range" = none) (z_len : mg "len" = none) (F__law_take : FnG P w K mg base ⟨K, cl⟩ "_law_take" 1 2 m__law_take) : FnG P w K mg base ⟨K, cl⟩ "_law_word" 2 3 m__law_word := d.fn fun f fd F => okf__law_word F z_range z_len F__law_take
/-! _law_number -/
noncomputable def b__law_number_1 : MS := msSet 2 (mOp dAdd (mOp dMul (mVar 2) (mB bLen (mCons (mVar 0) (mNil)))) (mMeth "str" fFind (mVar 0) (mCons (mVar 3) (mNil))))
noncomputable def m__law_number : MF := fnM 4 (msCons (msSet 2 (mC (.int 0)))
    (msCons (msFor (iSeq (mVar 1)) (gSet 3) b__law_number_1)
    (msRet (mFz (mOp dAdd (mOp dIx (mCall 2 (m__law_shorter) (mCons (mVar 0) (mCons (mB bLen (mCons (mVar 1) (mNil))) (mNil)))) (mC (.int 0))) (mVar 2))))))
theorem sc__law_number : FnScope ["_law_tongue", "_law_word_here", "_law_found", "_law_sign"] ["_law_tongue", "_law_word_here"] (defScope (topS 32)) := ⟨rfl, rfl, rfl, by decide +kernel, rfl, by decide +kernel, by decide +kernel⟩
theorem okf__law_number {P : Program} {w : World} {K : PySem.W.Frag} {mg : Str → Option Value} {base : Heap} {cl : Str → Addr} {f : Addr} {fd : FuncData} (F : Fun K "_law_number" "_law_number" (topS 32) f fd) (z_len : mg "len" = none) (F__law_shorter : FnG P w K mg base ⟨K, cl⟩ "_law_shorter" 1 2 m__law_shorter) : FnOk P w K mg base (L2.CX P w) 2 f fd ["_law_tongue", "_law_word_here"] (FSp ⟨K, cl⟩ 2 m__law_number) :=
  fnPM F sc__law_number rfl fun cdv A outer s H E hr tk hp => mss_cons (ms_set 2 sc__law_number.nd (me_int))
    (mss_cons (ms_for rfl hp (mi_seq rfl (me_var 1)) (mg_name 3 sc__law_number.nd) (mss_one (ms_set 2 sc__law_number.nd (me_add rfl (me_mul rfl (me_var 2) (me_callB call_lenA bLen_ok z_len (by decide +kernel) (ma_cons (me_var 0) (ma_nil)))) (me_meth rfl PySem.F.plainAttrs_str PySem.F.slot_str_find PySem.F.type_str_find mt_find fFind_ok (me_var 0) (ma_cons (me_var 3) (ma_nil)))))))
    (mss_one (ms_ret (me_fz (me_add rfl (me_ix rfl (me_callG F__law_shorter hr (by decide) tk (ma_cons (me_var 0) (ma_cons (me_callB call_lenA bLen_ok z_len (by decide +kernel) (ma_cons (me_var 1) (ma_nil))) (ma_nil)))) (me_int)) (me_var 2))))))
theorem ok__law_number {P : Program} {w : World} {K : PySem.W.Frag} {mg : Str → Option Value} {base : Heap} {cl : Str → Addr} (d : DefAt K mg "_law_number" (topS 32) ["_law_tongue", "_law_word_here"]) (z_len : mg "len" = none) (F__law_shorter : FnG P w K mg base ⟨K, cl⟩ "_law_shorter" 1 2 m__law_shorter) : FnG P w K mg base ⟨K, cl⟩ "_law_number" 2 2 m__law_number := d.fn fun f fd F => okf__law_number F z_len F__law_shorter
/-! _law_refused -/
noncomputable def b__law_refused_1 : MS := msExpr (mCall 2 (m_word_at) (mCons (mVar 0) (mCons (mVar 1) (mNil))))
noncomputable def s__law_refused_2 : Str → Nat → MS := fun c a => msSet 2 (mAndV (mIsE iT c a 3 "NoWord") (mNotV (mCall 1 (m__law_others c a) (mCons (mVar 3) (mNil)))))
noncomputable def m__law_refused : MF := fnM 4 (msCons (msSet 2 (mC (.bl false)))
    (msCons (msTryAs hT "ReachError" 3 b__law_refused_1 s__law_refused_2)
    (msRet (mVar 2))))
theorem sc__law_refused : FnScope ["_law_tongue", "_law_number_here", "_law_good", "_law_e"] ["_law_tongue", "_law_number_here"] (defScope (topS 30)) := ⟨rfl, rfl, rfl, by decide +kernel, rfl, by decide +kernel, by decide +kernel⟩
theorem okf__law_refused {P : Program} {w : World} {K : PySem.W.Frag} {mg : Str → Option Value} {base : Heap} {cl : Str → Addr} {f : Addr} {fd : FuncData} (F : Fun K "_law_refused" "_law_refused" (topS 30) f fd) (z_isinstance : mg "isinstance" = none) (m_NoWord : mg "NoWord" = some (.ref (cl "NoWord"))) (m_ReachError : mg "ReachError" = some (.ref (cl "ReachError"))) (F_hT : ExH K cl hT) (F_iT : ExI K cl iT) (F_word_at : FnG P w K mg base ⟨K, cl⟩ "word_at" 2 2 m_word_at) (F__law_others : FnGP P w K mg base ⟨K, cl⟩ "_law_others" 1 1 m__law_others) : FnOk P w K mg base (L2.CX P w) 3 f fd ["_law_tongue", "_law_number_here"] (FSp ⟨K, cl⟩ 2 m__law_refused) :=
  fnPM F sc__law_refused rfl fun cdv A outer s H E hr tk hp => mss_cons (ms_set 2 sc__law_refused.nd (me_bl))
    (mss_cons (ms_tryAs 3 rfl rfl sc__law_refused.nd F_hT m_ReachError tk (fun W pn xe tk hp => mss_one (ms_expr (me_callG F_word_at hr (by decide) tk (ma_cons (me_var 0) (ma_cons (me_var 1) (ma_nil)))))) (fun c a oe pn hz hf => mss_one (ms_set 2 sc__law_refused.nd (me_and (me_isE 3 hz hf F_iT z_isinstance (.own rfl m_NoWord (by decide) (by decide) (.nil))) (me_one (me_not (me_callP F__law_others hz hf hr (by decide) takes0 (ma_cons (me_var 3) (ma_nil)))))))))
    (mss_one (ms_ret (me_var 2))))
theorem ok__law_refused {P : Program} {w : World} {K : PySem.W.Frag} {mg : Str → Option Value} {base : Heap} {cl : Str → Addr} (d : DefAt K mg "_law_refused" (topS 30) ["_law_tongue", "_law_number_here"]) (z_isinstance : mg "isinstance" = none) (m_NoWord : mg "NoWord" = some (.ref (cl "NoWord"))) (m_ReachError : mg "ReachError" = some (.ref (cl "ReachError"))) (F_hT : ExH K cl hT) (F_iT : ExI K cl iT) (F_word_at : FnG P w K mg base ⟨K, cl⟩ "word_at" 2 2 m_word_at) (F__law_others : FnGP P w K mg base ⟨K, cl⟩ "_law_others" 1 1 m__law_others) : FnG P w K mg base ⟨K, cl⟩ "_law_refused" 3 2 m__law_refused := d.fn fun f fd F => okf__law_refused F z_isinstance m_NoWord m_ReachError F_hT F_iT F_word_at F__law_others
/-! _law_same -/
noncomputable def b__law_same_1 (r__law_same : MF) : MS := msIf (mNot (mTr (mCall 2 (r__law_same) (mCons (mVar 2) (mCons (mVar 3) (mNil)))))) (msRet (mC (.bl false))) (msNil)
noncomputable def B__law_same (r__law_same : MF) : MF := fnM 4 (msCons (msIf (mTr (mIs "tuple" (mVar 1))) (msCons (msIf (mOr (mNot (mTr (mIs "tuple" (mVar 0)))) (mTb (mOp (dEq true) (mB bLen (mCons (mVar 0) (mNil))) (mB bLen (mCons (mVar 1) (mNil)))))) (msRet (mC (.bl false))) (msNil))
    (msCons (msFor (iZip (mCons (mVar 0) (mCons (mVar 1) (mNil)))) (gSets [2, 3]) (b__law_same_1 r__law_same))
    (msRet (mC (.bl true))))) (msNil))
    (msCons (msIf (mTr (mIs "str" (mVar 1))) (msRet (mAndV (mIs "str" (mVar 0)) (mOp (dEq false) (mVar 0) (mVar 1)))) (msNil))
    (msRet (mAndV (mIs "int" (mVar 0)) (mAndV (mNotV (mIs "bool" (mVar 0))) (mOp (dEq false) (mVar 0) (mVar 1)))))))
theorem sc__law_same : FnScope ["_law_found", "_law_due", "_law_one", "_law_other"] ["_law_found", "_law_due"] (defScope (topS 28)) := ⟨rfl, rfl, rfl, by decide +kernel, rfl, by decide +kernel, by decide +kernel⟩
theorem okf__law_same {P : Program} {w : World} {K : PySem.W.Frag} {mg : Str → Option Value} {base : Heap} {cl : Str → Addr} {k : Nat} {r__law_same : MF} (hk : 0 ≤ k) {f : Addr} {fd : FuncData} (F : Fun K "_law_same" "_law_same" (topS 28) f fd) (z_isinstance : mg "isinstance" = none) (z_tuple : mg "tuple" = none) (z_len : mg "len" = none) (z_zip : mg "zip" = none) (z_str : mg "str" = none) (z_int : mg "int" = none) (z_bool : mg "bool" = none) (F__law_same : FnG P w K mg base ⟨K, cl⟩ "_law_same" k 2 r__law_same) : FnOk P w K mg base (L2.CX P w) (k + 1) f fd ["_law_found", "_law_due"] (FSp ⟨K, cl⟩ 2 (B__law_same r__law_same)) :=
  fnPM F sc__law_same rfl fun cdv A outer s H E hr tk hp => mss_cons (ms_if (mt_val rfl (me_is rfl (me_var 1) z_isinstance z_tuple)) (mss_cons (ms_if (mt_w (mw_or (mt_not (mt_val rfl (me_is rfl (me_var 0) z_isinstance z_tuple))) (mw_or1 (mt_cmp (op_neP hr.units) (dNe_ok rfl) (me_callB call_lenA bLen_ok z_len (by decide +kernel) (ma_cons (me_var 0) (ma_nil))) (me_callB call_lenA bLen_ok z_len (by decide +kernel) (ma_cons (me_var 1) (ma_nil))))))) (mss_one (ms_ret (me_bl))) (mss_nil))
    (mss_cons (ms_for rfl hp (mi_zip rfl (ma_cons (me_var 0) (ma_cons (me_var 1) (ma_nil))) z_zip) (mg_tup rfl rfl (.cons (pg_name (i := 2) sc__law_same.nd rfl (by first | exact Or.inl rfl | exact Or.inr rfl)) (.cons (pg_name (i := 3) sc__law_same.nd rfl (by first | exact Or.inl rfl | exact Or.inr rfl)) (.nil) rfl) rfl)) (mss_one (ms_if (mt_not (mt_val rfl (me_callG F__law_same hr (Nat.le_refl _) tk (ma_cons (me_var 2) (ma_cons (me_var 3) (ma_nil)))))) (mss_one (ms_ret (me_bl))) (mss_nil))))
    (mss_one (ms_ret (me_bl))))) (mss_nil))
    (mss_cons (ms_if (mt_val rfl (me_is rfl (me_var 1) z_isinstance z_str)) (mss_one (ms_ret (me_and (me_is rfl (me_var 0) z_isinstance z_str) (me_one (me_cmp (op_eqP hr.units) (dEq_ok rfl) (me_var 0) (me_var 1)))))) (mss_nil))
    (mss_one (ms_ret (me_and (me_is rfl (me_var 0) z_isinstance z_int) (me_and (me_not (me_is rfl (me_var 0) z_isinstance z_bool)) (me_one (me_cmp (op_eqP hr.units) (dEq_ok rfl) (me_var 0) (me_var 1))))))))
noncomputable def scc__law_same : Nat → MF
  | 0 => (mNo)
  | n + 1 => (B__law_same (scc__law_same n))
noncomputable def m__law_same (n : Nat) : MF := (scc__law_same n)
theorem m__law_same_succ (n : Nat) : m__law_same (n + 1) = B__law_same (m__law_same n) := rfl
theorem ok_scc__law_same {P : Program} {w : World} {K : PySem.W.Frag} {mg : Str → Option Value} {base : Heap} {cl : Str → Addr} (d__law_same : DefAt K mg "_law_same" (topS 28) ["_law_found", "_law_due"]) (z_isinstance : mg "isinstance" = none) (z_tuple : mg "tuple" = none) (z_len : mg "len" = none) (z_zip : mg "zip" = none) (z_str : mg "str" = none) (z_int : mg "int" = none) (z_bool : mg "bool" = none) (n : Nat) : FnG P w K mg base ⟨K, cl⟩ "_law_same" (0 + n) 2 (m__law_same n) := by
  induction n with
  | zero => exact fnG_no d__law_same rfl
  | succ n ih => exact d__law_same.fn fun f fd F => okf__law_same (Nat.le_add_right _ _) F z_isinstance z_tuple z_len z_zip z_str z_int z_bool ih
/-! law -/
noncomputable def m_law : MF := fnM 10 (msCons (msSet 1 (mCall 1 (m__law_pen) (mCons (mVar 0) (mNil))))
    (msCons (msSet 2 (mCall 2 (m__law_take) (mCons (mVar 1) (mCons (mC (.int 12)) (mNil)))))
    (msCons (msSet 3 (mCall 3 (m__law_some) (mCons (mVar 1) (mCons (mCall 0 (m__law_signs) mNil) (mCons (mC (.int 6)) (mNil))))))
    (msCons (msSet 4 (mCall 3 (m__law_word) (mCons (mVar 1) (mCons (mVar 3) (mCons (mOp dIx (mFz (mLst (mCons (mC (.int 8)) (mCons (mC (.int 60)) (mCons (mC (.int 8)) (mCons (mC (.int 60)) (mCons (mC (.int 8)) (mNil)))))))) (mCall 2 (m__law_take) (mCons (mVar 1) (mCons (mC (.int 5)) (mNil))))) (mNil))))))
    (msCons (msIf (mTb (mOp (dEq false) (mCall 2 (m__law_take) (mCons (mVar 1) (mCons (mC (.int 8)) (mNil)))) (mC (.int 0)))) (msSet 4 (mOp dMul (mOp dIx (mVar 3) (mNeg (mC (.int 1)))) (mB bLen (mCons (mVar 4) (mNil))))) (msNil))
    (msCons (msSet 5 (mCall 2 (m__law_number) (mCons (mVar 3) (mCons (mVar 4) (mNil)))))
    (msCons (msSet 6 (mOp dIx (mCall 2 (m__law_shorter) (mCons (mVar 3) (mCons (mC (.int 61)) (mNil)))) (mC (.int 0))))
    (msCons (msSet 7 (mFz (mLst (mCons (mVar 6) (mCons (mFz (mOp dAdd (mVar 6) (mCall 2 (m__law_take) (mCons (mVar 1) (mCons (mC (.int 1000)) (mNil)))))) (mCons (mOp dAdd (mOp dPow (mC (.int 10)) (mC (.int 60))) (mOp dMulW (mVar 5) (mVar 5))) (mCons (mOp dSub (mNeg (mC (.int 1))) (mVar 5)) (mCons (mC (.bl true)) (mCons (mC (.bl false)) (mCons (mC .non) (mCons (mB bStr1 (mCons (mVar 5) (mNil))) (mNil))))))))))))
    (msCons (msSet 8 (mOp dIx (mFz (mOp dAdd (mVar 7) (mFz (mLst (mCons (mTup (mCons (mVar 5) (mNil))) (mCons (mFz (mLst (mCons (mVar 5) (mNil)))) (mCons (mFz (mDict [(mVar 5, mVar 5)])) (mCons (mVar 4) (mNil))))))))) (mVar 2)))
    (msCons (msIf (mOr (mNot (mTr (mCall 2 ((m__law_same 24)) (mCons (mCall 2 (m_number_of) (mCons (mVar 3) (mCons (mVar 4) (mNil)))) (mCons (mVar 5) (mNil)))))) (mNot (mTr (mCall 2 ((m__law_same 24)) (mCons (mCall 2 (m_word_at) (mCons (mVar 3) (mCons (mVar 5) (mNil)))) (mCons (mVar 4) (mNil))))))) (msRet (mC (.bl false))) (msNil))
    (msCons (msIf (mOr (mNot (mTr (mCall 2 (m__law_refused) (mCons (mVar 3) (mCons (mVar 8) (mNil)))))) (mNot (mTr (mCall 2 ((m__law_same 24)) (mCons (mCall 2 (m_word_at) (mCons (mVar 3) (mCons (mVar 5) (mNil)))) (mCons (mVar 4) (mNil))))))) (msRet (mC (.bl false))) (msNil))
    (msCons (msSet 9 (mCall 2 (m__law_next) (mCons (mVar 3) (mCons (mVar 4) (mNil)))))
    (msCons (msIf (mTb (mOp dLt (mB bLen (mCons (mVar 9) (mNil))) (mC (.int 61)))) (msIf (mOr (mNot (mTr (mCall 2 ((m__law_same 24)) (mCons (mCall 2 (m_word_at) (mCons (mVar 3) (mCons (mOp dAdd (mVar 5) (mC (.int 1))) (mNil)))) (mCons (mVar 9) (mNil)))))) (mNot (mTr (mCall 2 ((m__law_same 24)) (mCons (mCall 2 (m_number_of) (mCons (mVar 3) (mCons (mVar 9) (mNil)))) (mCons (mOp dAdd (mVar 5) (mC (.int 1))) (mNil))))))) (msRet (mC (.bl false))) (msNil)) (msIf (mNot (mTr (mCall 2 (m__law_refused) (mCons (mVar 3) (mCons (mOp dAdd (mVar 5) (mC (.int 1))) (mNil)))))) (msRet (mC (.bl false))) (msNil)))
    (msRet (mAndV (mCall 2 ((m__law_same 24)) (mCons (mCall 2 (m_word_at) (mCons (mVar 3) (mCons (mOp dSub (mVar 6) (mC (.int 1))) (mNil)))) (mCons (mOp dMul (mOp dIx (mVar 3) (mNeg (mC (.int 1)))) (mC (.int 60))) (mNil)))) (mCall 2 ((m__law_same 24)) (mCons (mCall 2 (m_word_at) (mCons (mVar 3) (mCons (mC (.int 0)) (mNil)))) (mCons (mC (.str [])) (mNil)))))))))))))))))))
theorem sc_law : FnScope ["_law_script", "_law_pen_here", "_law_odd", "_law_tongue", "_law_word_here", "_law_due", "_law_most", "_law_things", "_law_bad", "_law_later"] ["_law_script"] (defScope (topS 34)) := ⟨rfl, rfl, rfl, by decide +kernel, rfl, by decide +kernel, by decide +kernel⟩
theorem okf_law {P : Program} {w : World} {K : PySem.W.Frag} {mg : Str → Option Value} {base : Heap} {cl : Str → Addr} {f : Addr} {fd : FuncData} (F : Fun K "law" "law" (topS 34) f fd) (z_len : mg "len" = none) (z_str : mg "str" = none) (F__law_pen : FnG P w K mg base ⟨K, cl⟩ "_law_pen" 1 1 m__law_pen) (F__law_take : FnG P w K mg base ⟨K, cl⟩ "_law_take" 1 2 m__law_take) (F__law_some : FnG P w K mg base ⟨K, cl⟩ "_law_some" 2 3 m__law_some) (F__law_signs : FnG P w K mg base ⟨K, cl⟩ "_law_signs" 1 0 m__law_signs) (F__law_word : FnG P w K mg base ⟨K, cl⟩ "_law_word" 2 3 m__law_word) (F__law_number : FnG P w K mg base ⟨K, cl⟩ "_law_number" 2 2 m__law_number) (F__law_shorter : FnG P w K mg base ⟨K, cl⟩ "_law_shorter" 1 2 m__law_shorter) (F__law_same : FnG P w K mg base ⟨K, cl⟩ "_law_same" 24 2 (m__law_same 24)) (F_number_of : FnG P w K mg base ⟨K, cl⟩ "number_of" 1 2 m_number_of) (F_word_at : FnG P w K mg base ⟨K, cl⟩ "word_at" 2 2 m_word_at) (F__law_refused : FnG P w K mg base ⟨K, cl⟩ "_law_refused" 3 2 m__law_refused) (F__law_next : FnG P w K mg base ⟨K, cl⟩ "_law_next" 1 2 m__law_next) : FnOk P w K mg base (L2.CX P w) 25 f fd ["_law_script"] (FSp ⟨K, cl⟩ 1 m_law) :=
  fnPM F sc_law rfl fun cdv A outer s H E hr tk hp => mss_cons (ms_set 1 sc_law.nd (me_callG F__law_pen hr (by decide) tk (ma_cons (me_var 0) (ma_nil))))
    (mss_cons (ms_set 2 sc_law.nd (me_callG F__law_take hr (by decide) tk (ma_cons (me_var 1) (ma_cons (me_int) (ma_nil)))))
    (mss_cons (ms_set 3 sc_law.nd (me_callG F__law_some hr (by decide) tk (ma_cons (me_var 1) (ma_cons (me_callG0 F__law_signs hr (by decide) tk) (ma_cons (me_int) (ma_nil))))))
    (mss_cons (ms_set 4 sc_law.nd (me_callG F__law_word hr (by decide) tk (ma_cons (me_var 1) (ma_cons (me_var 3) (ma_cons (me_ix rfl (me_fz (me_lst (ma_cons (me_int) (ma_cons (me_int) (ma_cons (me_int) (ma_cons (me_int) (ma_cons (me_int) (ma_nil)))))))) (me_callG F__law_take hr (by decide) tk (ma_cons (me_var 1) (ma_cons (me_int) (ma_nil))))) (ma_nil))))))
    (mss_cons (ms_if (mt_cmp (op_eqP hr.units) (dEq_ok rfl) (me_callG F__law_take hr (by decide) tk (ma_cons (me_var 1) (ma_cons (me_int) (ma_nil)))) (me_int)) (mss_one (ms_set 4 sc_law.nd (me_mul rfl (me_ix rfl (me_var 3) (me_neg (me_int))) (me_callB call_lenA bLen_ok z_len (by decide +kernel) (ma_cons (me_var 4) (ma_nil)))))) (mss_nil))
    (mss_cons (ms_set 5 sc_law.nd (me_callG F__law_number hr (by decide) tk (ma_cons (me_var 3) (ma_cons (me_var 4) (ma_nil)))))
    (mss_cons (ms_set 6 sc_law.nd (me_ix rfl (me_callG F__law_shorter hr (by decide) tk (ma_cons (me_var 3) (ma_cons (me_int) (ma_nil)))) (me_int)))
    (mss_cons (ms_set 7 sc_law.nd (me_fz (me_lst (ma_cons (me_var 6) (ma_cons (me_fz (me_add rfl (me_var 6) (me_callG F__law_take hr (by decide) tk (ma_cons (me_var 1) (ma_cons (me_int) (ma_nil)))))) (ma_cons (me_add rfl (me_pow (me_int) (me_int)) (me_mulW (me_var 5) (me_var 5))) (ma_cons (me_sub (me_neg (me_int)) (me_var 5)) (ma_cons (me_bl) (ma_cons (me_bl) (ma_cons (me_non) (ma_cons (me_callT call_str_int bStr1_ok z_str (by decide +kernel) (ma_cons (me_var 5) (ma_nil))) (ma_nil))))))))))))
    (mss_cons (ms_set 8 sc_law.nd (me_ix rfl (me_fz (me_add rfl (me_var 7) (me_fz (me_lst (ma_cons (me_tup (ma_cons (me_var 5) (ma_nil))) (ma_cons (me_fz (me_lst (ma_cons (me_var 5) (ma_nil)))) (ma_cons (me_fz (me_dict (prs_cons (me_var 5) (me_var 5) (prs_nil)))) (ma_cons (me_var 4) (ma_nil))))))))) (me_var 2)))
    (mss_cons (ms_if (mt_w (mw_or (mt_not (mt_val rfl (me_callG F__law_same hr (by decide) tk (ma_cons (me_callG F_number_of hr (by decide) tk (ma_cons (me_var 3) (ma_cons (me_var 4) (ma_nil)))) (ma_cons (me_var 5) (ma_nil)))))) (mw_or1 (mt_not (mt_val rfl (me_callG F__law_same hr (by decide) tk (ma_cons (me_callG F_word_at hr (by decide) tk (ma_cons (me_var 3) (ma_cons (me_var 5) (ma_nil)))) (ma_cons (me_var 4) (ma_nil))))))))) (mss_one (ms_ret (me_bl))) (mss_nil))
    (mss_cons (ms_if (mt_w (mw_or (mt_not (mt_val rfl (me_callG F__law_refused hr (by decide) tk (ma_cons (me_var 3) (ma_cons (me_var 8) (ma_nil)))))) (mw_or1 (mt_not (mt_val rfl (me_callG F__law_same hr (by decide) tk (ma_cons (me_callG F_word_at hr (by decide) tk (ma_cons (me_var 3) (ma_cons (me_var 5) (ma_nil)))) (ma_cons (me_var 4) (ma_nil))))))))) (mss_one (ms_ret (me_bl))) (mss_nil))
    (mss_cons (ms_set 9 sc_law.nd (me_callG F__law_next hr (by decide) tk (ma_cons (me_var 3) (ma_cons (me_var 4) (ma_nil)))))
    (mss_cons (ms_if (mt_cmp op_lt opS_C (me_callB call_lenA bLen_ok z_len (by decide +kernel) (ma_cons (me_var 9) (ma_nil))) (me_int)) (mss_one (ms_if (mt_w (mw_or (mt_not (mt_val rfl (me_callG F__law_same hr (by decide) tk (ma_cons (me_callG F_word_at hr (by decide) tk (ma_cons (me_var 3) (ma_cons (me_add rfl (me_var 5) (me_int)) (ma_nil)))) (ma_cons (me_var 9) (ma_nil)))))) (mw_or1 (mt_not (mt_val rfl (me_callG F__law_same hr (by decide) tk (ma_cons (me_callG F_number_of hr (by decide) tk (ma_cons (me_var 3) (ma_cons (me_var 9) (ma_nil)))) (ma_cons (me_add rfl (me_var 5) (me_int)) (ma_nil))))))))) (mss_one (ms_ret (me_bl))) (mss_nil))) (mss_one (ms_if (mt_not (mt_val rfl (me_callG F__law_refused hr (by decide) tk (ma_cons (me_var 3) (ma_cons (me_add rfl (me_var 5) (me_int)) (ma_nil)))))) (mss_one (ms_ret (me_bl))) (mss_nil))))
    (mss_one (ms_ret (me_and (me_callG F__law_same hr (by decide) tk (ma_cons (me_callG F_word_at hr (by decide) tk (ma_cons (me_var 3) (ma_cons (me_sub (me_var 6) (me_int)) (ma_nil)))) (ma_cons (me_mul rfl (me_ix rfl (me_var 3) (me_neg (me_int))) (me_int)) (ma_nil)))) (me_one (me_callG F__law_same hr (by decide) tk (ma_cons (me_callG F_word_at hr (by decide) tk (ma_cons (me_var 3) (ma_cons (me_int) (ma_nil)))) (ma_cons (me_str []) (ma_nil))))))))))))))))))))
/-! the end -/
theorem all_ok {P : Program} {w : World} {K : PySem.W.Frag} {mg : Str → Option Value} {base : Heap} (cl : Str → Addr) (z_ValueError : mg "ValueError" = none) (z_abs : mg "abs" = none) (z_bool : mg "bool" = none) (z_int : mg "int" = none) (z_isinstance : mg "isinstance" = none) (z_len : mg "len" = none) (z_range : mg "range" = none) (z_str : mg "str" = none) (z_tuple : mg "tuple" = none) (z_zip : mg "zip" = none) (g_LONGEST : GlC mg "LONGEST" c_LONGEST) (x_NoWord : ExC1 K mg "NoWord" (cl "NoWord")) (m_Closed : mg "Closed" = some (.ref (cl "Closed"))) (m_NoBook : mg "NoBook" = some (.ref (cl "NoBook"))) (m_NoLine : mg "NoLine" = some (.ref (cl "NoLine"))) (m_NoModes : mg "NoModes" = some (.ref (cl "NoModes"))) (m_NoPlace : mg "NoPlace" = some (.ref (cl "NoPlace"))) (m_NoQuote : mg "NoQuote" = some (.ref (cl "NoQuote"))) (m_NoShape : mg "NoShape" = some (.ref (cl "NoShape"))) (m_NoTable : mg "NoTable" = some (.ref (cl "NoTable"))) (m_NoText : mg "NoText" = some (.ref (cl "NoText"))) (m_NoWord : mg "NoWord" = some (.ref (cl "NoWord"))) (m_ReachError : mg "ReachError" = some (.ref (cl "ReachError"))) (m_Stopped : mg "Stopped" = some (.ref (cl "Stopped"))) (m_TooHeavy : mg "TooHeavy" = some (.ref (cl "TooHeavy"))) (m_TooMany : mg "TooMany" = some (.ref (cl "TooMany"))) (m_Unlike : mg "Unlike" = some (.ref (cl "Unlike"))) (F_hT : ExH K cl hT) (F_iT : ExI K cl iT) (d_is_number : DefAt K mg "is_number" (topS 17) ["thing"]) (d_number_of : DefAt K mg "number_of" (topS 20) ["tongue", "word"]) (d__law_pen : DefAt K mg "_law_pen" (topS 23) ["_law_script"]) (d__law_take : DefAt K mg "_law_take" (topS 24) ["_law_pen_here", "_law_many"]) (d__law_signs : DefAt K mg "_law_signs" (topS 25) []) (d__law_others : DefAt K mg "_law_others" (topS 29) ["_law_e"]) (d__law_shorter : DefAt K mg "_law_shorter" (topS 31) ["_law_tongue", "_law_size"]) (d__law_next : DefAt K mg "_law_next" (topS 33) ["_law_tongue", "_law_word_here"]) (d_word_at : DefAt K mg "word_at" (topS 21) ["tongue", "number"]) (d__law_some : DefAt K mg "_law_some" (topS 26) ["_law_pen_here", "_law_rest", "_law_most"]) (d__law_word : DefAt K mg "_law_word" (topS 27) ["_law_pen_here", "_law_tongue", "_law_most"]) (d__law_number : DefAt K mg "_law_number" (topS 32) ["_law_tongue", "_law_word_here"]) (d__law_refused : DefAt K mg "_law_refused" (topS 30) ["_law_tongue", "_law_number_here"]) (d__law_same : DefAt K mg "_law_same" (topS 28) ["_law_found", "_law_due"]) {f : Addr} {fd : FuncData} (F : Fun K "law" "law" (topS 34) f fd) : FnOk P w K mg base (L2.CX P w) 25 f fd ["_law_script"] (FSp ⟨K, cl⟩ 1 m_law) := by
  have F_is_number : FnG P w K mg base ⟨K, cl⟩ "is_number" 1 1 m_is_number := ok_is_number d_is_number z_isinstance z_int z_bool
  have F_number_of : FnG P w K mg base ⟨K, cl⟩ "number_of" 1 2 m_number_of := ok_number_of d_number_of z_len
  have F__law_pen : FnG P w K mg base ⟨K, cl⟩ "_law_pen" 1 1 m__law_pen := ok__law_pen d__law_pen
  have F__law_take : FnG P w K mg base ⟨K, cl⟩ "_law_take" 1 2 m__law_take := ok__law_take d__law_take z_len z_abs z_int
  have F__law_signs : FnG P w K mg base ⟨K, cl⟩ "_law_signs" 1 0 m__law_signs := ok__law_signs d__law_signs
  have F__law_others : FnGP P w K mg base ⟨K, cl⟩ "_law_others" 1 1 m__law_others := ok__law_others d__law_others z_isinstance z_ValueError m_Closed m_NoBook m_NoLine m_NoModes m_NoPlace m_NoQuote m_NoShape m_NoTable m_NoText m_Stopped m_TooHeavy m_TooMany m_Unlike F_iT
  have F__law_shorter : FnG P w K mg base ⟨K, cl⟩ "_law_shorter" 1 2 m__law_shorter := ok__law_shorter d__law_shorter z_range z_len
  have F__law_next : FnG P w K mg base ⟨K, cl⟩ "_law_next" 1 2 m__law_next := ok__law_next d__law_next z_len
  have F_word_at : FnG P w K mg base ⟨K, cl⟩ "word_at" 2 2 m_word_at := ok_word_at d_word_at z_len g_LONGEST x_NoWord F_is_number
  have F__law_some : FnG P w K mg base ⟨K, cl⟩ "_law_some" 2 3 m__law_some := ok__law_some d__law_some z_range z_len F__law_take
  have F__law_word : FnG P w K mg base ⟨K, cl⟩ "_law_word" 2 3 m__law_word := ok__law_word d__law_word z_range z_len F__law_take
  have F__law_number : FnG P w K mg base ⟨K, cl⟩ "_law_number" 2 2 m__law_number := ok__law_number d__law_number z_len F__law_shorter
  have F__law_refused : FnG P w K mg base ⟨K, cl⟩ "_law_refused" 3 2 m__law_refused := ok__law_refused d__law_refused z_isinstance m_NoWord m_ReachError F_hT F_iT F_word_at F__law_others
  have F__law_same : FnG P w K mg base ⟨K, cl⟩ "_law_same" 24 2 (m__law_same 24) := (ok_scc__law_same d__law_same z_isinstance z_tuple z_len z_zip z_str z_int z_bool 24)
  exact okf_law F z_len z_str F__law_pen F__law_take F__law_some F__law_signs F__law_word F__law_number F__law_shorter F__law_same F_number_of F_word_at F__law_refused F__law_next
end NR

set_option Elab.async false
set_option linter.all false
set_option maxRecDepth 100000
set_option maxHeartbeats 1000000
/-! What the functions come to: equations for simp. -/
namespace NR
open PySem PySem.Spec PyProof.Rows L2
@[simp] theorem get_zero {A : Type} {a : A} {l : List A} : (a :: l)[0]? = some a := (rfl)
section
variable {A B : Type} {env : EV} {h h' : IH} {i j : Nat} {d x y : D} {a b c m mo mi me : ME} {t u : MT} {ta : MA} {s s1 s2 : MS} {f g : D → D → IH → R D}
@[simp] theorem bind_ok {a : A} {k : A → IH → R B} : (R.ok a h).bind k = k a h := (rfl)
@[simp] theorem bind_ex {c : Str} {d : XF} {k : A → IH → R B} : (R.ex c d h : R A).bind k = .ex c d h := (rfl)
@[simp] theorem bind_no {k : A → IH → R B} : (R.no : R A).bind k = .no := (rfl)
@[simp] theorem bindS_ok {a : A} {k : A → IH → RS} : (R.ok a h).bindS env k = k a h := (rfl)
@[simp] theorem bindS_ex {c : Str} {d : XF} {k : A → IH → RS} : (R.ex c d h : R A).bindS env k = .ex c d env h := (rfl)
@[simp] theorem bindS_no {k : A → IH → RS} : (R.no : R A).bindS env k = .no := (rfl)
@[simp] theorem then_nx {k : EV → IH → RS} : (RS.nx env h).then k = k env h := (rfl)
@[simp] theorem then_rt {k : EV → IH → RS} : (RS.rt d h).then k = .rt d h := (rfl)
@[simp] theorem then_bk {k : EV → IH → RS} : (RS.bk env h).then k = .bk env h := (rfl)
@[simp] theorem then_ct {k : EV → IH → RS} : (RS.ct env h).then k = .ct env h := (rfl)
@[simp] theorem then_ex {c : Str} {d : XF} {k : EV → IH → RS} : (RS.ex c d env h).then k = .ex c d env h := (rfl)
@[simp] theorem then_no {k : EV → IH → RS} : RS.no.then k = .no := (rfl)
@[simp] theorem fin_nx : (RS.nx env h).fin = .ok .non h := (rfl)
@[simp] theorem fin_rt : (RS.rt d h).fin = .ok d h := (rfl)
@[simp] theorem fin_ex {c : Str} {d : XF} : (RS.ex c d env h).fin = .ex c d h := (rfl)
@[simp] theorem ofO_some {a : A} : R.ofO (some a) h = .ok a h := (rfl)
/-- a new list -/
def newL (h : IH) (xs : List D) : R D := .ok (.ref h.length) (h ++ [.lst xs])
theorem newL_bind {xs : List D} {k : D → IH → R B} : (newL h xs).bind k = k (.ref h.length) (h ++ [.lst xs]) := rfl
theorem newL_bindS {xs : List D} {k : D → IH → RS} : (newL h xs).bindS env k = k (.ref h.length) (h ++ [.lst xs]) := rfl
@[simp] theorem ap_mVar : mVar i env h = match env[i]? with | some (some d) => .ok d h | _ => .no := rfl
@[simp] theorem ap_mC : mC d env h = .ok d h := rfl
@[simp] theorem ap_mOp : mOp f a b env h = (a env h).bind fun x h1 => (b env h1).bind fun y h2 => f x y h2 := rfl
@[simp] theorem ap_mTr : mTr m env h = (m env h).bind fun d h1 => R.ofO (truD h1 d) h1 := rfl
@[simp] theorem ap_mTb : mTb m env h = (m env h).bind fun d h1 => R.ofO d.bl? h1 := rfl
@[simp] theorem ap_mAnd : mAnd t u env h = (t env h).bind fun c h1 => if c = true then u env h1 else .ok false h1 := rfl
@[simp] theorem ap_mOr : mOr t u env h = (t env h).bind fun c h1 => if c = true then .ok true h1 else u env h1 := rfl
@[simp] theorem ap_mNot : mNot t env h = (t env h).bind fun c h1 => .ok (!c) h1 := rfl
@[simp] theorem ap_mIf : mIf t a b env h = (t env h).bind fun c h1 => if c = true then a env h1 else b env h1 := rfl
@[simp] theorem ap_mNil : mNil env h = .ok [] h := rfl
@[simp] theorem ap_mCons : mCons a ta env h = (a env h).bind fun x h1 => (ta env h1).bind fun xs h2 => .ok (x :: xs) h2 := rfl
@[simp] theorem ap_mTup : mTup ta env h = (ta env h).bind fun xs h1 => if xs.length ≤ 10000000 then .ok (.tup xs) h1 else .no := rfl
@[simp] theorem ap_mLst : mLst ta env h = (ta env h).bind fun xs h1 => if xs.length ≤ 10000000 then newL h1 xs else .no := rfl
@[simp] theorem ap_mCall {n : Nat} {fm : MF} : mCall n fm ta env h = (ta env h).bind fun ds h1 => callC n fm ds h1 := rfl
@[simp] theorem ap_mB {fb : List D → IH → R D} : mB fb ta env h = (ta env h).bind fun xs h1 => fb xs h1 := rfl
@[simp] theorem ap_mMeth {T : String} {fb : D → List D → IH → R D} : mMeth T fb mo ta env h = (mo env h).bind fun x h1 => if tyD T h1 x = true then (ta env h1).bind fun xs h2 => fb x xs h2 else .no := rfl
@[simp] theorem ap_mNeg : mNeg a env h = (a env h).bind fun x h1 => match x with | .int i => .ok (.int (-i)) h1 | _ => .no := rfl
@[simp] theorem ap_mAndV : mAndV a b env h = (a env h).bind fun x h1 => match x with | .bl true => b env h1 | .bl false => .ok (.bl false) h1 | _ => .no := rfl
@[simp] theorem ap_mOrV : mOrV a b env h = (a env h).bind fun x h1 => match x with | .bl true => .ok (.bl true) h1 | .bl false => b env h1 | _ => .no := rfl
@[simp] theorem ap_mNotV : mNotV a env h = (a env h).bind fun x h1 => match x with | .bl b => .ok (.bl (!b)) h1 | _ => .no := rfl
@[simp] theorem ap_mChain : mChain f g a b c env h = (a env h).bind fun x h1 => (b env h1).bind fun y h2 => (f x y h2).bind fun z h3 => match z with
  | .bl true => (c env h3).bind fun w h4 => g y w h4
  | .bl false => .ok (.bl false) h3
  | _ => .no := rfl
@[simp] theorem ap_mSlice {l u : MO} : mSlice m l u env h = (m env h).bind fun x h1 => (l env h1).bind fun l h2 => (u env h2).bind fun u h3 => sliceD x l u h3 := rfl
@[simp] theorem ap_moNone : moNone env h = .ok none h := rfl
@[simp] theorem ap_moSome : moSome m env h = (m env h).bind fun d h1 => match d with | .int i => .ok (some i) h1 | _ => .no := rfl
@[simp] theorem ap_mIs {T : String} : mIs T m env h = (m env h).bind fun x h1 => match isT T h1 x with | some b => .ok (.bl b) h1 | none => .no := rfl
@[simp] theorem ap_msNil : msNil env h = .nx env h := rfl
@[simp] theorem ap_msCons : msCons s1 s2 env h = (s1 env h).then s2 := rfl
@[simp] theorem ap_msRet : msRet m env h = (m env h).bindS env fun d h1 => .rt d h1 := rfl
@[simp] theorem ap_msIf : msIf t s1 s2 env h = (t env h).bindS env fun c h1 => if c = true then s1 env h1 else s2 env h1 := rfl
@[simp] theorem ap_msSet : msSet i m env h = (m env h).bindS env fun d h1 => .nx (env.set i (some d)) h1 := rfl
@[simp] theorem ap_msSetT {gg : MG} : msSetT gg m env h = (m env h).bindS env fun d h1 => match gg d env with | some e => .nx e h1 | none => .no := rfl
@[simp] theorem ap_msExpr : msExpr m env h = (m env h).bindS env fun _ h1 => .nx env h1 := rfl
@[simp] theorem ap_msAug : msAug i f m env h = match env[i]? with
  | some (some x) => (m env h).bindS env fun y h1 => (f x y h1).bindS env fun z h2 => .nx (env.set i (some z)) h2
  | _ => .no := rfl
@[simp] theorem ap_msSetI : msSetI mo mi me env h = (me env h).bindS env fun v h1 => (mo env h1).bindS env fun o h2 => (mi env h2).bindS env fun i h3 => match putD o i v h3 with
  | some h4 => .nx env h4
  | none => .no := rfl
@[simp] theorem ap_msAugI : msAugI f mo mi me env h = (mo env h).bindS env fun o h1 => (mi env h1).bindS env fun i h2 => match getL o i h2 with
  | none => .no
  | some x => (me env h2).bindS env fun y h3 => (f x y h3).bindS env fun z h4 => match putD o i z h4 with
    | some h5 => .nx env h5
    | none => .no := rfl
@[simp] theorem ap_msFor {it : MI} {gg : MG} : msFor it gg s env h = (it env h).bindS env fun src h1 => forM src gg s (src.many h1 + 1) 0 env h1 := rfl
@[simp] theorem ap_mLc {it : MI} {gg : MG} {ws : List Nat} : mLc it gg t m ws env h = (it env h).bind fun src h1 => lcM src gg t m h1.length (src.many h1 + 1) 0 (wipeE env ws) (h1 ++ [.lst []]) := rfl
@[simp] theorem ap_iSeq : iSeq m env h = (m env h).bind fun x h1 => match x with
  | .ref n => if (lstOf h1 (.ref n)).isSome then .ok (.ls n) h1 else .no
  | .tup l => .ok (.st l) h1
  | .fl l => .ok (.st l) h1
  | .str s => if s.length ≤ 10000000 then .ok (.st (s.map fun c => .str [c])) h1 else .no
  | _ => .no := rfl
@[simp] theorem ap_iRange1 : iRange1 ta env h = (ta env h).bind fun xs h1 => match xs with
  | [.int j] => if -10000000 ≤ j ∧ j ≤ 10000000 then .ok (.st (intsFrom 0 j.toNat)) h1 else .no
  | _ => .no := rfl
@[simp] theorem ap_iRange2 : iRange2 ta env h = (ta env h).bind fun xs h1 => match xs with
  | [.int i, .int j] => if -10000000 ≤ i ∧ i ≤ 10000000 ∧ -10000000 ≤ j ∧ j ≤ 10000000 then .ok (.st (intsFrom i (j - i).toNat)) h1 else .no
  | _ => .no := rfl
@[simp] theorem ap_fnM {n : Nat} {ds : List D} : fnM n s ds h = (s (ds.map some ++ List.replicate (n - ds.length) none) h).fin := rfl
theorem strV_eq (a b : List Nat) : (strV a == strV b) = decide (a = b) := by
  by_cases e : a = b
  · subst e; simp
  · rw [decide_eq_false e]
    exact beq_eq_false_iff_ne.mpr fun z => e (strV_inj z)
@[simp] theorem dEq_str {neg : Bool} {a b : List Nat} : dEq neg (.str a) (.str b) h = .ok (.bl (if neg then !decide (a = b) else decide (a = b))) h := by
  show R.ok (D.bl (if neg then !PyData.eqv (.str (strV a)) (.str (strV b)) else PyData.eqv (.str (strV a)) (.str (strV b)))) h = _
  rw [show PyData.eqv (.str (strV a)) (.str (strV b)) = (strV a == strV b) by simp [PyData.eqv], strV_eq]
@[simp] theorem dEq_int {neg : Bool} {a b : Int} : dEq neg (.int a) (.int b) h = .ok (.bl (if neg then !decide (a = b) else decide (a = b))) h := by
  show R.ok (D.bl (if neg then !PyData.eqv (.int a) (.int b) else PyData.eqv (.int a) (.int b))) h = _
  rw [show PyData.eqv (.int a) (.int b) = (a == b) by simp [PyData.eqv], Bool.beq_eq_decide_eq]
@[simp] theorem dIn_sign {neg : Bool} {c : Nat} {z : List Nat} : dIn neg (.str [c]) (.str z) h = .ok (.bl (if neg then !decide (c ∈ z) else decide (c ∈ z))) h := rfl
theorem allM_pyStrs {k : Nat} (zs : List (List Nat)) : allM (D.py h (k + 1)) (zs.map D.str) = some (zs.map fun z => PyData.str (strV z)) := by
  induction zs with
  | nil => rfl
  | cons z zs ih =>
    rw [List.map_cons, List.map_cons]
    unfold allM
    rw [ih]
    rfl
theorem dIn_strs {neg : Bool} {a : List Nat} {zs : List (List Nat)} : dIn neg (.str a) (.tup (zs.map D.str)) h = .ok (.bl (if neg then !decide (a ∈ zs) else decide (a ∈ zs))) h := by
  have e : (zs.map fun z => PyData.str (strV z)).any (fun z => PyData.eqv z (.str (strV a))) = decide (a ∈ zs) := by
    induction zs with
    | nil => rfl
    | cons z zs ih =>
      simp only [List.map_cons, List.any_cons, ih, PyData.eqv, strV_eq, List.mem_cons, Bool.decide_or]
      rw [show decide (z = a) = decide (a = z) from decide_eq_decide.mpr eq_comm]
  unfold dIn
  split
  · rename_i h1 h2; cases h2
  · rw [show D.py h 50 (.str a) = some (.str (strV a)) from rfl, show (seqOf h (.tup (zs.map D.str))).bind (allM (D.py h 49)) = allM (D.py h (48 + 1)) (zs.map D.str) from rfl, allM_pyStrs]
    dsimp only
    rw [e]
@[simp] theorem dAdd_int {i j : Int} : dAdd (.int i) (.int j) h = .ok (.int (i + j)) h := rfl
@[simp] theorem dSub_int {i j : Int} : dSub (.int i) (.int j) h = .ok (.int (i - j)) h := rfl
theorem dAdd_str_if {a b : List Nat} : dAdd (.str a) (.str b) h = if a.length + b.length ≤ 10000000 then .ok (.str (a ++ b)) h else .no := rfl
@[simp] theorem dMul_int {i j : Int} : dMul (.int i) (.int j) h = if cMul i j then .ok (.int (i * j)) h else .no := rfl
@[simp] theorem dI_int {C : Int → Int → Bool} {k : Int → Int → Int} {i j : Int} : dI C k (.int i) (.int j) h = if C i j then .ok (.int (k i j)) h else .no := rfl
@[simp] theorem dC_int {k : Int → Int → Bool} {i j : Int} : dC k (.int i) (.int j) h = .ok (.bl (k i j)) h := rfl
@[simp] theorem bl?_bl {b : Bool} : (D.bl b).bl? = some b := rfl
@[simp] theorem truD_bl {b : Bool} : truD h (.bl b) = some b := rfl
theorem okB_self {k : Nat} : ∀ {h g : IH}, okB k h (h ++ g)
  | [], _ => True.intro
  | _ :: h, g => ⟨.inl rfl, okB_self (h := h)⟩
@[simp] theorem okB_app {k : Nat} {h g : IH} : okB k h (h ++ g) ↔ True := iff_true_intro okB_self
@[simp] theorem okB_refl {k : Nat} {h : IH} : okB k h h ↔ True := iff_true_intro (by simpa using okB_self (k := k) (h := h) (g := []))
@[simp] theorem okB_nil {k : Nat} {h : IH} : okB k [] h ↔ True := Iff.rfl
@[simp] theorem okB_cons {k : Nat} {c c' : Cell} {cs cs' : IH} : okB k (c :: cs) (c' :: cs') ↔ (c' = c ∨ Cell.lo k c' = true) ∧ okB k cs cs' := Iff.rfl
/-- a call of a def that changes nothing and tells a value without cells of its own -/
theorem callC_pure {n : Nat} {fm : MF} {ds : List D} {d : D} {g : IH} (hn : ds.length = n) (e : fm ds h = .ok d (h ++ g)) (hd : d.lo h.length = true) : callC n fm ds h = .ok d h := by
  unfold callC
  rw [if_pos hn, e]
  unfold clean
  simp [hd]
theorem callC_same {n : Nat} {fm : MF} {ds : List D} {d : D} (hn : ds.length = n) (e : fm ds h = .ok d h) : callC n fm ds h = .ok d h := by
  unfold callC
  rw [if_pos hn, e]
  unfold clean
  simp
theorem callC_ex {n : Nat} {fm : MF} {ds : List D} {c : Str} {g : IH} (hn : ds.length = n) (e : fm ds h = .ex c none (h ++ g)) : callC n fm ds h = .ex c none h := by
  unfold callC
  rw [if_pos hn, e]
  unfold clean
  simp [xfLo]
theorem callC_len {n : Nat} {fm : MF} {ds : List D} {d : D} (hn : ds.length = n) (e : fm ds h = .ok d h') (hl : h'.length = h.length) : callC n fm ds h = .ok d h' := by
  unfold callC
  rw [if_pos hn, e]
  unfold clean
  dsimp only
  rw [← hl, List.take_length]
  split <;> rfl
/-- a call that leaves h' of the old cells, and more behind them -/
theorem callC_cut {n : Nat} {fm : MF} {ds : List D} {d : D} {g : IH} (hn : ds.length = n) (e : fm ds h = .ok d (h' ++ g)) (hl : h'.length = h.length) (hd : d.lo h.length = true) (hw : okB h.length h (h' ++ g)) : callC n fm ds h = .ok d h' := by
  unfold callC
  rw [if_pos hn, e]
  unfold clean
  dsimp only
  rw [if_pos ⟨hd, hw⟩, ← hl, List.take_left]
/-- a call that draws: the pen's cell stands at 1 -/
theorem callC_pen {n : Nat} {fm : MF} {ds : List D} {d : D} {z c c' : Cell} {g g' : IH} (hn : ds.length = n) (e : fm ds (z :: c :: g) = .ok d (z :: c' :: (g ++ g'))) (hd : ∀ k, 2 ≤ k → d.lo k = true) (hc : ∀ k, 2 ≤ k → Cell.lo k c' = true) : callC n fm ds (z :: c :: g) = .ok d (z :: c' :: g) :=
  callC_cut (h := z :: c :: g) (h' := z :: c' :: g) (g := g') hn (by simpa using e) rfl (hd _ (by simp)) (by simp [hc])
theorem callC_pen0 {n : Nat} {fm : MF} {ds : List D} {d : D} {z c c' : Cell} {g : IH} (hn : ds.length = n) (e : fm ds (z :: c :: g) = .ok d (z :: c' :: g)) : callC n fm ds (z :: c :: g) = .ok d (z :: c' :: g) := callC_len hn e rfl
/-- a call whose value is a cell of its own -/
theorem callC_new {n : Nat} {fm : MF} {ds : List D} {k : Nat} (hn : ds.length = n) (e : fm ds h = .ok (.ref k) h') (hk : h.length ≤ k) : callC n fm ds h = .ok (.ref k) h' := by
  unfold callC
  rw [if_pos hn, e]
  unfold clean
  dsimp only
  rw [if_neg]
  rintro ⟨h2, _⟩
  simp [D.lo] at h2
  omega
/-- a call whose value tells of cells of its own -/
theorem callC_tup {n : Nat} {fm : MF} {ds : List D} {d : D} (hn : ds.length = n) (e : fm ds h = .ok d h') (hd : d.lo h.length = false) : callC n fm ds h = .ok d h' := by
  unfold callC
  rw [if_pos hn, e]
  unfold clean
  dsimp only
  rw [if_neg]
  rintro ⟨h2, _⟩
  rw [hd] at h2
  cases h2
/-- a for over what stands still -/
theorem forM_inv {ds : List D} {gg : MG} (P : Nat → EV → IH → Prop) (Rs : RS → Prop)
    (step : ∀ i d env h, ds[i]? = some d → P i env h → ∃ e1, gg d env = some e1 ∧ (match s e1 h with
      | .nx e2 h2 => P (i + 1) e2 h2
      | .ct e2 h2 => P (i + 1) e2 h2
      | .bk e2 h2 => Rs (.nx e2 h2)
      | r => Rs r)) (fin : ∀ env h, P ds.length env h → Rs (.nx env h)) (h0 : P 0 env h) : Rs (forM (.st ds) gg s ((Src.st ds).many h + 1) 0 env h) := by
  have go : ∀ m i env h, i + m = ds.length + 1 → i ≤ ds.length → P i env h → Rs (forM (.st ds) gg s m i env h) := by
    intro m
    induction m with
    | zero => intro i env h e l; omega
    | succ m ih =>
      intro i env h e l p
      unfold forM
      rw [if_pos (show (Src.st ds).ok h = true from rfl)]
      show Rs (match ds[i]? with
        | none => _
        | some d => _)
      cases hd : ds[i]? with
      | none =>
        have : i = ds.length := by
          have := List.getElem?_eq_none_iff.mp hd
          omega
        subst this
        exact fin env h p
      | some d =>
        have hi := (List.getElem?_eq_some_iff.mp hd).1
        obtain ⟨e1, g1, st⟩ := step i d env h hd p
        dsimp only
        rw [g1]
        dsimp only
        revert st
        cases s e1 h with
        | nx e2 h2 => exact fun st => ih (i + 1) e2 h2 (by omega) (by omega) st
        | ct e2 h2 => exact fun st => ih (i + 1) e2 h2 (by omega) (by omega) st
        | bk e2 h2 => exact fun st => st
        | rt d2 h2 => exact fun st => st
        | ex c d2 e2 h2 => exact fun st => st
        | no => exact fun st => st
  exact go _ 0 env h (by show 0 + (ds.length + 1) = _; omega) (Nat.zero_le _) h0
theorem msWhile_inv {c : MT} (P : Nat → EV → IH → Prop) (Rs : RS → Prop)
    (step : ∀ m env h, P m env h → match c env h with
      | .ok true h1 => (match s env h1 with
        | .nx e2 h2 => ∃ m', m' < m ∧ P m' e2 h2
        | .ct e2 h2 => ∃ m', m' < m ∧ P m' e2 h2
        | .bk e2 h2 => Rs (.nx e2 h2)
        | r => Rs r)
      | .ok false h1 => Rs (.nx env h1)
      | .ex cl d h1 => Rs (.ex cl d env h1)
      | .no => Rs .no) : ∀ (m : Nat) (env : EV) (h : IH), P m env h → Rs (msWhile c s env h) := by
  intro m
  induction m using Nat.strongRecOn with
  | _ m ih =>
    intro env h p
    have st := step m env h p
    rw [msWhile_eq]
    revert st
    cases c env h with
    | no => exact fun st => st
    | ex cl d h1 => exact fun st => st
    | ok b h1 =>
      cases b with
      | false => exact fun st => st
      | true =>
        dsimp only
        cases s env h1 with
        | nx e2 h2 => exact fun ⟨m', l, p'⟩ => ih m' l e2 h2 p'
        | ct e2 h2 => exact fun ⟨m', l, p'⟩ => ih m' l e2 h2 p'
        | bk e2 h2 => exact fun st => st
        | rt d2 h2 => exact fun st => st
        | ex c d2 e2 h2 => exact fun st => st
        | no => exact fun st => st
/-- a comprehension over what stands still -/
theorem lcM_inv {ds : List D} {gg : MG} {n : Nat} (P : Nat → IH → Prop) (Rs : R D → Prop)
    (step : ∀ i d h, ds[i]? = some d → P i h → ∃ e1, gg d env = some e1 ∧ (match t e1 h with
      | .ok true h2 => ∃ y h3 acc, m e1 h2 = .ok y h3 ∧ h3[n]? = some (.lst acc) ∧ acc.length < 10000000 ∧ P (i + 1) (h3.set n (.lst (acc ++ [y])))
      | .ok false h2 => P (i + 1) h2
      | _ => False)) (fin : ∀ h, P ds.length h → Rs (.ok (.ref n) h)) (h0 : P 0 h) : Rs (lcM (.st ds) gg t m n ((Src.st ds).many h' + 1) 0 env h) := by
  have go : ∀ k i h, i + k = ds.length + 1 → i ≤ ds.length → P i h → Rs (lcM (.st ds) gg t m n k i env h) := by
    intro k
    induction k with
    | zero => intro i h e l; omega
    | succ k ih =>
      intro i h e l p
      unfold lcM
      rw [if_pos (show (Src.st ds).ok h = true from rfl)]
      show Rs (match ds[i]? with
        | none => _
        | some d => _)
      cases hd : ds[i]? with
      | none =>
        have : i = ds.length := by
          have := List.getElem?_eq_none_iff.mp hd
          omega
        subst this
        exact fin h p
      | some d =>
        have hi := (List.getElem?_eq_some_iff.mp hd).1
        obtain ⟨e1, g1, st⟩ := step i d h hd p
        dsimp only
        rw [g1]
        dsimp only
        revert st
        cases t e1 h with
        | no => exact fun st => st.elim
        | ex _ _ _ => exact fun st => st.elim
        | ok b h2 =>
          cases b with
          | false => exact fun st => ih (i + 1) h2 (by omega) (by omega) st
          | true =>
            rintro ⟨y, h3, acc, e3, e4, l4, p4⟩
            dsimp only
            rw [e3]
            dsimp only
            rw [e4]
            dsimp only
            rw [if_pos l4]
            exact ih (i + 1) _ (by omega) (by omega) p4
  exact go _ 0 h (by show 0 + (ds.length + 1) = _; omega) (Nat.zero_le _) h0
theorem get_last {h : IH} {c : Cell} : (h ++ [c])[h.length]? = some c := by simp
theorem set_last {h : IH} {c c' : Cell} : (h ++ [c]).set h.length c' = h ++ [c'] := by simp
/-- a comprehension of what is reckoned of each -/
theorem lcM_map {ds : List D} {gg : MG} (F : D → D) (hl : ds.length ≤ 9000000) (step : ∀ d ∈ ds, ∃ e1, gg d env = some e1 ∧ ∀ x, m e1 (h ++ [x]) = .ok (F d) (h ++ [x])) :
    lcM (.st ds) gg mYes m h.length ((Src.st ds).many h' + 1) 0 env (h ++ [.lst []]) = .ok (.ref h.length) (h ++ [.lst (ds.map F)]) := by
  refine lcM_inv (P := fun i h' => h' = h ++ [.lst ((ds.take i).map F)]) (Rs := fun r => r = .ok (.ref h.length) (h ++ [.lst (ds.map F)])) ?_ ?_ ?_
  · intro i d h' hd hp
    subst hp
    obtain ⟨e1, g1, st⟩ := step d (List.mem_of_getElem? hd)
    refine ⟨e1, g1, ?_⟩
    show ∃ y h3 acc, m e1 _ = .ok y h3 ∧ _
    refine ⟨F d, _, _, st _, get_last, ?_, ?_⟩
    · rw [List.length_map, List.length_take]
      omega
    · rw [set_last, List.take_add_one, hd]
      simp
  · intro h' hp
    rw [hp, List.take_length]
  · simp
theorem lcM_filter {ds : List D} {gg : MG} (F : D → D) (p : D → Bool) (hl : ds.length ≤ 9000000) (step : ∀ d ∈ ds, ∃ e1, gg d env = some e1 ∧ (∀ x, t e1 (h ++ [x]) = .ok (p d) (h ++ [x])) ∧ ∀ x, p d = true → m e1 (h ++ [x]) = .ok (F d) (h ++ [x])) :
    lcM (.st ds) gg t m h.length ((Src.st ds).many h' + 1) 0 env (h ++ [.lst []]) = .ok (.ref h.length) (h ++ [.lst ((ds.filter p).map F)]) := by
  refine lcM_inv (P := fun i h' => h' = h ++ [.lst (((ds.take i).filter p).map F)]) (Rs := fun r => r = .ok (.ref h.length) (h ++ [.lst ((ds.filter p).map F)])) ?_ ?_ ?_
  · intro i d h' hd hp
    subst hp
    obtain ⟨e1, g1, tt, st⟩ := step d (List.mem_of_getElem? hd)
    refine ⟨e1, g1, ?_⟩
    rw [tt]
    cases hpd : p d with
    | true =>
      dsimp only
      refine ⟨F d, _, _, st _ hpd, get_last, ?_, ?_⟩
      · rw [List.length_map]
        have := List.length_filter_le p (ds.take i)
        rw [List.length_take] at this
        omega
      · rw [set_last, List.take_add_one, hd]
        simp [hpd]
    | false =>
      dsimp only
      rw [List.take_add_one, hd]
      simp [hpd]
  · intro h' hp
    rw [hp, List.take_length]
  · simp
theorem joinN_nil : ∀ ys : List (List Nat), joinN [] ys = ys.flatten
  | [] => rfl
  | [x] => by simp [joinN]
  | x :: y :: r => by
    unfold joinN
    rw [joinN_nil (y :: r)]
    simp
theorem sum_lens (ys : List (List Nat)) : (ys.map List.length).sum = ys.flatten.length := by
  induction ys with
  | nil => rfl
  | cons y ys ih => rw [List.map_cons, List.sum_cons, ih, List.flatten_cons, List.length_append]
theorem join_nil_eq {h : IH} {n : Nat} {ys : List (List Nat)} (e : h[n]? = some (.lst (ys.map D.str))) (l : ys.flatten.length ≤ 10000000) : fJoin (.str []) [.ref n] h = .ok (.str ys.flatten) h := by
  unfold fJoin; dsimp only
  have e1 : (seqOf h (.ref n)).bind (allM D.str?) = some ys := by
    unfold seqOf
    dsimp only
    rw [e]
    exact allM_mkStrs ys
  rw [e1]
  dsimp only
  rw [sum_lens, List.length_nil, Nat.mul_zero, Nat.add_zero, joinN_nil, if_pos l]
theorem ixN_toNat {n : Nat} {i : Int} (h0 : 0 ≤ i) (h1 : i < n) : ixN n i = some i.toNat := by
  unfold ixN
  rw [if_pos h0, if_pos h1]
theorem dIx_str {s : List Nat} {i : Int} {c : Nat} (h0 : 0 ≤ i) (e : s[i.toNat]? = some c) (l : s.length ≤ 10000000) : dIx (.str s) (.int i) h = .ok (.str [c]) h := by
  have hi := (List.getElem?_eq_some_iff.mp e).1
  show getD' _ _ _ = _
  unfold getD'
  dsimp only
  rw [ixN_toNat h0 (by omega)]
  dsimp only [Option.bind]
  rw [e]
  dsimp only
  rw [if_pos l]
theorem dIx_seq {o : D} {xs : List D} {i : Int} {d : D} (hs : seqOf h o = some xs) (h0 : 0 ≤ i) (e : xs[i.toNat]? = some d) : dIx o (.int i) h = .ok d h := by
  have hi := (List.getElem?_eq_some_iff.mp e).1
  show getD' _ _ _ = _
  unfold getD'
  cases o with
  | str s => simp [seqOf] at hs
  | _ =>
    dsimp only
    rw [hs]
    dsimp only [Option.bind]
    rw [ixN_toNat h0 (by omega)]
    dsimp only [Option.bind]
    rw [e]
/-- an item of a list's cell -/
theorem dIx_ref {n : Nat} {xs : List D} {i : Int} {d : D} (hs : h[n]? = some (.lst xs)) (h0 : 0 ≤ i) (e : xs[i.toNat]? = some d) : dIx (.ref n) (.int i) h = .ok d h := dIx_seq (by unfold seqOf; dsimp only; rw [hs]) h0 e
theorem putD_ref {n : Nat} {xs : List D} {i : Int} {v : D} (hs : h[n]? = some (.lst xs)) (h0 : 0 ≤ i) (l : i < xs.length) : putD (.ref n) (.int i) v h = some (h.set n (.lst (xs.set i.toNat v))) := by
  unfold putD
  dsimp only
  rw [hs]
  dsimp only
  rw [ixN_toNat h0 l]
  rfl
theorem getL_ref {n : Nat} {xs : List D} {i : Int} {d : D} (hs : h[n]? = some (.lst xs)) (h0 : 0 ≤ i) (e : xs[i.toNat]? = some d) : getL (.ref n) (.int i) h = some d := by
  have hi := (List.getElem?_eq_some_iff.mp e).1
  unfold getL
  dsimp only
  unfold lstOf
  dsimp only
  rw [hs]
  dsimp only [Option.bind]
  rw [ixN_toNat h0 (by omega)]
  dsimp only [Option.bind]
  rw [e]
theorem sIx_int {n d : Nat} {i : Int} (h0 : 0 ≤ i) : HT.sIx n d (some i) = min i.toNat n := by
  show (if i < 0 then (i + (n : Int)).toNat else min i.toNat n) = _
  rw [if_neg (by omega)]
theorem cut_two {A : Type} (xs : List A) (a b : Nat) : (xs.drop (min a xs.length)).take (min b xs.length - min a xs.length) = (xs.drop a).take (b - a) := by
  apply List.ext_getElem?
  intro j
  rw [List.getElem?_take, List.getElem?_take, List.getElem?_drop, List.getElem?_drop]
  by_cases ha : a ≤ xs.length
  · rw [Nat.min_eq_left ha]
    by_cases hb : b ≤ xs.length
    · rw [Nat.min_eq_left hb]
    · rw [Nat.min_eq_right (by omega)]
      by_cases hj : j < xs.length - a
      · rw [if_pos hj, if_pos (by omega)]
      · rw [if_neg hj, List.getElem?_eq_none (by omega)]
        split <;> rfl
  · rw [List.getElem?_eq_none (i := a + j) (by omega), List.getElem?_eq_none (i := min a xs.length + j) (by rw [Nat.min_eq_right (show xs.length ≤ a by omega)]; omega)]
    split <;> split <;> rfl
theorem cutN_two {xs : List Nat} {i j : Int} (h0 : 0 ≤ i) (h1 : 0 ≤ j) : cutN xs (some i) (some j) = (xs.drop i.toNat).take (j.toNat - i.toNat) := by
  unfold cutN
  rw [sIx_int h0, sIx_int h1, cut_two]
theorem cutN_to {xs : List Nat} {j : Int} (h1 : 0 ≤ j) : cutN xs none (some j) = xs.take j.toNat := by
  unfold cutN
  rw [sIx_int h1, HT.sIx_none, List.drop_zero, Nat.sub_zero]
  apply List.ext_getElem?
  intro k
  rw [List.getElem?_take, List.getElem?_take]
  by_cases hk : k < j.toNat
  · rw [if_pos hk]
    by_cases hx : k < xs.length
    · rw [if_pos (by omega)]
    · rw [List.getElem?_eq_none (by omega)]
      split <;> rfl
  · rw [if_neg hk, if_neg (by omega)]
theorem cutN_from {xs : List Nat} {i : Int} (h1 : 0 ≤ i) : cutN xs (some i) none = xs.drop i.toNat := by
  unfold cutN
  rw [sIx_int h1, HT.sIx_none]
  have e := cut_two xs i.toNat xs.length
  rw [Nat.min_self] at e
  rw [e, List.take_of_length_le (by rw [List.length_drop]; exact Nat.le_refl _)]
theorem cutD_two {xs : List D} {i j : Int} (h0 : 0 ≤ i) (h1 : 0 ≤ j) : cutD xs (some i) (some j) = (xs.drop i.toNat).take (j.toNat - i.toNat) := by
  unfold cutD
  rw [sIx_int h0, sIx_int h1, cut_two]
theorem cutD_to {xs : List D} {j : Int} (h1 : 0 ≤ j) : cutD xs none (some j) = xs.take j.toNat := by
  unfold cutD
  rw [sIx_int h1, HT.sIx_none, List.drop_zero, Nat.sub_zero]
  apply List.ext_getElem?
  intro k
  rw [List.getElem?_take, List.getElem?_take]
  by_cases hk : k < j.toNat
  · rw [if_pos hk]
    by_cases hx : k < xs.length
    · rw [if_pos (by omega)]
    · rw [List.getElem?_eq_none (by omega)]
      split <;> rfl
  · rw [if_neg hk, if_neg (by omega)]
theorem cutD_from {xs : List D} {i : Int} (h1 : 0 ≤ i) : cutD xs (some i) none = xs.drop i.toNat := by
  unfold cutD
  rw [sIx_int h1, HT.sIx_none]
  have e := cut_two xs i.toNat xs.length
  rw [Nat.min_self] at e
  rw [e, List.take_of_length_le (by rw [List.length_drop]; exact Nat.le_refl _)]
theorem bLen_str_if {s : List Nat} : bLen [.str s] h = if s.length ≤ 10000000 then .ok (.int (s.length : Nat)) h else .no := rfl
@[simp] theorem bLen_tup {l : List D} : bLen [.tup l] h = .ok (.int (l.length : Nat)) h := rfl
theorem bLen_ref {n : Nat} {xs : List D} (e : h[n]? = some (.lst xs)) : bLen [.ref n] h = .ok (.int (xs.length : Nat)) h := by
  unfold bLen
  dsimp only
  rw [e]
@[simp] theorem bAbs_int {i : Int} : bAbs [.int i] h = .ok (.int (if i < 0 then -i else i)) h := rfl
@[simp] theorem bMax2_int {i j : Int} : bMax2 [.int i, .int j] h = .ok (.int (if j > i then j else i)) h := rfl
@[simp] theorem bMin2_int {i j : Int} : bMin2 [.int i, .int j] h = .ok (.int (if j < i then j else i)) h := rfl
@[simp] theorem bInt1_int {i : Int} : bInt1 [.int i] h = .ok (.int i) h := rfl
@[simp] theorem bInt1_bl {b : Bool} : bInt1 [.bl b] h = .ok (.int (if b then 1 else 0)) h := rfl
@[simp] theorem dIAdd_int {i j : Int} : dIAdd (.int i) (.int j) h = .ok (.int (i + j)) h := rfl
theorem dIAdd_str_if {a b : List Nat} : dIAdd (.str a) (.str b) h = if a.length + b.length ≤ 10000000 then .ok (.str (a ++ b)) h else .no := rfl
@[simp] theorem dISub_int {i j : Int} : dISub (.int i) (.int j) h = .ok (.int (i - j)) h := rfl
theorem sliceD_str_if {s : List Nat} {l u : Option Int} : sliceD (.str s) l u h = if s.length ≤ 10000000 then .ok (.str (cutN s l u)) h else .no := rfl
@[simp] theorem sliceD_tup {s : List D} {l u : Option Int} : sliceD (.tup s) l u h = .ok (.tup (cutD s l u)) h := rfl
theorem is_str_str {s : List Nat} : isT "str" h (.str s) = some true := by
  show kitB "str" "str" = some true
  decide +kernel
theorem set_same {n : Nat} {c : Cell} (e : h[n]? = some c) : h.set n c = h := by
  apply List.ext_getElem?
  intro j
  by_cases hj : n = j
  · subst hj
    rw [List.getElem?_set_self (List.getElem?_eq_some_iff.mp e).1, e]
  · rw [List.getElem?_set_ne hj]
theorem get_set {n : Nat} {c c' : Cell} (e : h[n]? = some c) : (h.set n c')[n]? = some c' := List.getElem?_set_self (List.getElem?_eq_some_iff.mp e).1
theorem get_set_ne {n j : Nat} {c : Cell} (ne : n ≠ j) : (h.set n c)[j]? = h[j]? := List.getElem?_set_ne ne
@[simp] theorem loL_ints {n : Nat} (ns : List Int) : D.loL n (ns.map D.int) = true := by
  induction ns with
  | nil => simp [D.loL]
  | cons x xs ih => simp [D.loL, D.lo, ih]
@[simp] theorem loL_strs {n : Nat} (ns : List (List Nat)) : D.loL n (ns.map D.str) = true := by
  induction ns with
  | nil => simp [D.loL]
  | cons x xs ih => simp [D.loL, D.lo, ih]
/-! locked at once -/
open Classical in
/-- a new list that is locked at once -/
noncomputable def fzD (h h1 : IH) (xs : List D) : R D := fzR h (newL h1 xs)
theorem fz_newL {xs : List D} : fzR h (newL h' xs) = fzD h h' xs := rfl
theorem fz_bind {r : R A} {k : A → IH → R D} : fzR h (r.bind k) = r.bind fun a h1 => fzR h (k a h1) := by cases r <;> rfl
theorem fz_ite {p : Prop} [Decidable p] {r1 r2 : R D} : fzR h (if p then r1 else r2) = if p then fzR h r1 else fzR h r2 := by split <;> rfl
@[simp] theorem fz_no : fzR h .no = .no := rfl
@[simp] theorem fz_ex {c : Str} {d : XF} : fzR h (.ex c d h') = .ex c d h' := rfl
@[simp] theorem fz_non : fzR h (.ok .non h') = .ok .non h' := rfl
@[simp] theorem fz_bl {b : Bool} : fzR h (.ok (.bl b) h') = .ok (.bl b) h' := rfl
@[simp] theorem fz_int {b : Int} : fzR h (.ok (.int b) h') = .ok (.int b) h' := rfl
@[simp] theorem fz_str {b : List Nat} : fzR h (.ok (.str b) h') = .ok (.str b) h' := rfl
@[simp] theorem fz_tup {b : List D} : fzR h (.ok (.tup b) h') = .ok (.tup b) h' := rfl
@[simp] theorem fz_fl {b : List D} : fzR h (.ok (.fl b) h') = .ok (.fl b) h' := rfl
@[simp] theorem fz_fd {ks : List DKey} {b : List D} : fzR h (.ok (.fd ks b) h') = .ok (.fd ks b) h' := rfl
theorem fzR_at {n : Nat} {xs : List D} (e : h'[n]? = some (.lst xs)) (hn : h.length ≤ n) (lo : D.loL h.length xs = true) (ok : okB h.length h h') : fzR h (.ok (.ref n) h') = .ok (.fl xs) (h'.take h.length) := by
  unfold fzR
  dsimp only
  rw [e]
  dsimp only
  rw [if_pos ⟨hn, lo, ok⟩]
theorem fzD_same {xs : List D} (lo : D.loL h.length xs = true) : fzD h h xs = .ok (.fl xs) h := by
  unfold fzD newL
  rw [fzR_at (xs := xs) (by simp) (Nat.le_refl _) lo okB_self]
  simp
theorem fzD_pen {xs : List D} {z c c' : Cell} {g : IH} (lo : ∀ k, D.loL k xs = true) (lc : ∀ k, Cell.lo k c' = true) : fzD (z :: c :: g) (z :: c' :: g) xs = .ok (.fl xs) (z :: c' :: g) := by
  unfold fzD newL
  rw [fzR_at (n := (z :: c' :: g).length) (xs := xs) (by simp) (by simp) (lo _) (by simp [lc])]
  simp
/-- with old cells changed: nothing new is told of -/
theorem fzD_len {xs : List D} (hl : h'.length = h.length) (lo : D.loL h.length xs = true) (ok : okB h.length h (h' ++ [.lst xs])) : fzD h h' xs = .ok (.fl xs) h' := by
  unfold fzD newL
  rw [fzR_at (xs := xs) (by simp) (by omega) lo ok]
  simp [← hl]
theorem ap_mFz0 : mFz m env h = fzR h (m env h) := rfl
@[simp] theorem ap_mFz_lst : mFz (mLst ta) env h = (ta env h).bind fun xs h1 => if xs.length ≤ 10000000 then fzD h h1 xs else .no := by
  rw [ap_mFz0, ap_mLst, fz_bind]
  congr 1
  funext xs h1
  rw [fz_ite]
  rfl
@[simp] theorem ap_mFz_op : mFz (mOp f a b) env h = (a env h).bind fun x h1 => (b env h1).bind fun y h2 => fzR h (f x y h2) := by
  rw [ap_mFz0, ap_mOp, fz_bind]
  congr 1
  funext x h1
  rw [fz_bind]
@[simp] theorem ap_mFz_slice {l u : MO} : mFz (mSlice m l u) env h = (m env h).bind fun x h1 => (l env h1).bind fun l h2 => (u env h2).bind fun u h3 => fzR h (sliceD x l u h3) := by
  rw [ap_mFz0, ap_mSlice, fz_bind]
  congr 1
  funext x h1
  rw [fz_bind]
  congr 1
  funext x h1
  rw [fz_bind]
@[simp] theorem ap_mFz_B {fb : List D → IH → R D} : mFz (mB fb ta) env h = (ta env h).bind fun xs h1 => fzR h (fb xs h1) := by rw [ap_mFz0, ap_mB, fz_bind]
@[simp] theorem ap_mFz_call {n : Nat} {fm : MF} : mFz (mCall n fm ta) env h = (ta env h).bind fun ds h1 => fzR h (callC n fm ds h1) := by rw [ap_mFz0, ap_mCall, fz_bind]
@[simp] theorem ap_msRaise {x : Str} : msRaise x env h = .ex x none env h := rfl
@[simp] theorem ap_msFz_fl {i : Nat} {xs : List D} {b : MS} (e : env[i]? = some (some (.fl xs))) : msFz i b env h = b env h := by unfold msFz; rw [e]
theorem ap_msFz {i n : Nat} {xs : List D} {b : MS} (e : env[i]? = some (some (.ref n))) (e2 : h[n]? = some (.lst xs)) : msFz i b env h = b (env.set i (some (.fl xs))) (h.set n (.frz xs)) := by unfold msFz; rw [e]; dsimp only; rw [e2]
theorem dAdd_fl {a b : List D} : dAdd (.fl a) (.fl b) h = if a.length + b.length ≤ 10000000 then newL h (a ++ b) else .no := rfl
theorem dAdd_tup {a b : List D} : dAdd (.tup a) (.tup b) h = if a.length + b.length ≤ 10000000 then .ok (.tup (a ++ b)) h else .no := rfl
theorem sliceD_fl {l : List D} {lo hi : Option Int} : sliceD (.fl l) lo hi h = newL h (cutD l lo hi) := rfl
theorem bListX_str {s : List Nat} : bListX [.str s] h = if s.length ≤ 10000000 then newL h (sgD s) else .no := rfl
theorem bListX_fl {s : List D} : bListX [.fl s] h = newL h s := rfl
theorem bListX_tup {s : List D} : bListX [.tup s] h = newL h s := rfl
@[simp] theorem bTupleX_fl {s : List D} : bTupleX [.fl s] h = .ok (.tup s) h := rfl
@[simp] theorem bTupleX_tup {s : List D} : bTupleX [.tup s] h = .ok (.tup s) h := rfl
@[simp] theorem bLen_fl {l : List D} : bLen [.fl l] h = .ok (.int (l.length : Nat)) h := rfl
@[simp] theorem bSum_fl {ns : List Int} : bSum [.fl (ns.map D.int)] h = .ok (.int ns.sum) h := by
  show (match (some (ns.map D.int)).bind (allM D.int?) with | some ns => R.ok (D.int ns.sum) h | none => .no) = _
  simp
@[simp] theorem bAll_fl {ns : List Bool} : bAll [.fl (ns.map D.bl)] h = .ok (.bl (ns.all id)) h := by
  show (match (some (ns.map D.bl)).bind (allM D.bl?) with | some bs => R.ok (D.bl (bs.all id)) h | none => .no) = _
  simp
@[simp] theorem bAny_fl {ns : List Bool} : bAny [.fl (ns.map D.bl)] h = .ok (.bl (ns.any id)) h := by
  show (match (some (ns.map D.bl)).bind (allM D.bl?) with | some bs => R.ok (D.bl (bs.any id)) h | none => .no) = _
  simp
theorem bSorted_fl {ns : List Int} : bSorted [.fl (ns.map D.int)] h = newL h ((isrt ns).map D.int) := by
  show (match (some (ns.map D.int)).bind (allM D.int?) with | some ns => R.ok (D.ref h.length) (h ++ [Cell.lst ((isrt ns).map D.int)]) | none => .no) = _
  simp [newL]
@[simp] theorem isT_fl {T : String} {b : List D} : isT T h (.fl b) = kitB "list" T := rfl
@[simp] theorem isT_fd {T : String} {ks : List DKey} {b : List D} : isT T h (.fd ks b) = kitB "dict" T := rfl
@[simp] theorem tyD_str {T : String} {s : List Nat} : tyD T h (.str s) = (T == "str") := rfl
@[simp] theorem tyD_fl {T : String} {s : List D} : tyD T h (.fl s) = (T == "list") := rfl
@[simp] theorem loL_nil {n : Nat} : D.loL n [] = true := rfl
@[simp] theorem loL_cons {n : Nat} {d : D} {ds : List D} : D.loL n (d :: ds) = (D.lo n d && D.loL n ds) := rfl
@[simp] theorem lo_int {n : Nat} {i : Int} : D.lo n (.int i) = true := rfl
@[simp] theorem lo_bl {n : Nat} {i : Bool} : D.lo n (.bl i) = true := rfl
@[simp] theorem lo_non {n : Nat} : D.lo n .non = true := rfl
@[simp] theorem lo_str {n : Nat} {i : List Nat} : D.lo n (.str i) = true := rfl
@[simp] theorem lo_tup {n : Nat} {i : List D} : D.lo n (.tup i) = D.loL n i := rfl
@[simp] theorem lo_fl {n : Nat} {i : List D} : D.lo n (.fl i) = D.loL n i := rfl
@[simp] theorem lo_fd {n : Nat} {ks : List DKey} {i : List D} : D.lo n (.fd ks i) = D.loL n i := rfl
@[simp] theorem lo_ref {n i : Nat} : D.lo n (.ref i) = decide (i < n) := rfl
@[simp] theorem clo_lst {n : Nat} {i : List D} : Cell.lo n (.lst i) = D.loL n i := rfl
theorem loL_of {n : Nat} : ∀ {ds : List D}, (∀ d ∈ ds, D.lo n d = true) → D.loL n ds = true
  | [], _ => rfl
  | d :: ds, h => by simp [h d List.mem_cons_self, loL_of fun x hx => h x (List.mem_cons_of_mem _ hx)]
theorem loL_mem {n : Nat} : ∀ {ds : List D}, D.loL n ds = true → ∀ d ∈ ds, D.lo n d = true
  | d :: ds, h, x, hx => by
    simp at h
    rcases List.mem_cons.mp hx with rfl | hx
    · exact h.1
    · exact loL_mem h.2 x hx
@[simp] theorem loL_map {T : Type} {n : Nat} {f : T → D} {l : List T} : D.loL n (l.map f) = l.all fun x => D.lo n (f x) := by
  induction l with
  | nil => rfl
  | cons x l ih => simp [ih]
@[simp] theorem loL_app {n : Nat} {a b : List D} : D.loL n (a ++ b) = (D.loL n a && D.loL n b) := by
  induction a with
  | nil => simp
  | cons x l ih => simp [ih, Bool.and_assoc]
/-! numbers from nought -/
def nD (x : Nat) : D := .int (x : Nat)
theorem nD_eq (x : Nat) : nD x = .int (x : Nat) := rfl
@[simp] theorem lo_nD {n x : Nat} : D.lo n (nD x) = true := rfl
theorem nD_inj {a b : Nat} : nD a = nD b ↔ a = b := ⟨fun z => by injection z with z; omega, fun z => by rw [z]⟩
theorem nD_map (l : List Nat) : l.map nD = (l.map fun (x : Nat) => (x : Int)).map D.int := by rw [List.map_map]; rfl
theorem nats_of {m : Nat} : ∀ {ys : List D}, (∀ y ∈ ys, ∃ x, y = nD x ∧ x < m) → ∃ row : List Nat, ys = row.map nD ∧ ∀ x ∈ row, x < m
  | [], _ => ⟨[], rfl, by simp⟩
  | y :: ys, hp => by
    obtain ⟨x, rfl, hx⟩ := hp y List.mem_cons_self
    obtain ⟨row, rfl, hr⟩ := nats_of fun z hz => hp z (List.mem_cons_of_mem _ hz)
    exact ⟨x :: row, rfl, by simpa using ⟨hx, hr⟩⟩
theorem append_at {n : Nat} {xs : List D} {y : D} (e : h[n]? = some (.lst xs)) (l : xs.length < 10000000) : fAppend (.ref n) [y] h = .ok .non (h.set n (.lst (xs ++ [y]))) := by
  unfold fAppend
  dsimp only
  rw [e]
  dsimp only
  rw [if_pos l]
theorem tyD_ref {n : Nat} {xs : List D} (e : h[n]? = some (.lst xs)) : tyD "list" h (.ref n) = true := by
  unfold tyD
  dsimp only
  rw [e]
  rfl
theorem lstOf_ref {n : Nat} {xs : List D} (e : h[n]? = some (.lst xs)) : lstOf h (.ref n) = some xs := by
  unfold lstOf
  dsimp only
  rw [e]
theorem seqOf_ref {n : Nat} {xs : List D} (e : h[n]? = some (.lst xs)) : seqOf h (.ref n) = some xs := by
  unfold seqOf
  dsimp only
  rw [e]
@[simp] theorem seqOf_fl {l : List D} : seqOf h (.fl l) = some l := rfl
@[simp] theorem seqOf_tup {l : List D} : seqOf h (.tup l) = some l := rfl
@[simp] theorem lstOf_fl {l : List D} : lstOf h (.fl l) = some l := rfl
theorem allM_pyInts {k : Nat} (ns : List Int) : allM (D.py h (k + 1)) (ns.map D.int) = some (ns.map PyData.int) := by
  induction ns with
  | nil => rfl
  | cons z zs ih =>
    rw [List.map_cons, List.map_cons]
    unfold allM
    rw [ih]
    rfl
theorem dIn_ints {neg : Bool} {a : Int} {y : D} {ns : List Int} (e : seqOf h y = some (ns.map D.int)) : dIn neg (.int a) y h = .ok (.bl (if neg then !decide (a ∈ ns) else decide (a ∈ ns))) h := by
  have ea : (ns.map PyData.int).any (fun z => PyData.eqv z (.int a)) = decide (a ∈ ns) := by
    clear e
    induction ns with
    | nil => rfl
    | cons n ns ih =>
      have hb : (n == a) = decide (a = n) := by
        by_cases hz : a = n
        · subst hz; simp
        · rw [decide_eq_false hz]; exact beq_eq_false_iff_ne.mpr fun z => hz z.symm
      simp only [List.map_cons, List.any_cons, ih, PyData.eqv, List.mem_cons, Bool.decide_or, hb]
  unfold dIn
  split
  · rename_i h1 h2; cases h2
  · rw [show D.py h 50 (.int a) = some (.int a) from rfl, e]
    show (match some (PyData.int a), allM (D.py h (48 + 1)) (ns.map D.int) with | some a, some bs => R.ok (D.bl _) h | _, _ => .no) = _
    rw [allM_pyInts]
    dsimp only
    rw [ea]
theorem dIn_nats {neg : Bool} {a : Nat} {y : D} {ns : List Nat} (e : seqOf h y = some (ns.map nD)) : dIn neg (.int (a : Nat)) y h = .ok (.bl (if neg then !decide (a ∈ ns) else decide (a ∈ ns))) h := by
  rw [dIn_ints (ns := ns.map fun (x : Nat) => (x : Int)) (by rw [e, nD_map])]
  have : decide (((a : Nat) : Int) ∈ ns.map fun (x : Nat) => (x : Int)) = decide (a ∈ ns) := by
    refine decide_eq_decide.mpr ⟨fun hm => ?_, fun hm => List.mem_map.mpr ⟨a, hm, rfl⟩⟩
    obtain ⟨x, hx, e2⟩ := List.mem_map.mp hm
    have : x = a := by omega
    rw [← this]
    exact hx
  rw [this]
theorem dIx_nat {o : D} {xs : List D} {n : Nat} {d : D} (hs : seqOf h o = some xs) (e : xs[n]? = some d) : dIx o (.int (n : Nat)) h = .ok d h := dIx_seq hs (by omega) (by simpa using e)
theorem idxOf_cast (ns : List Nat) (y : Nat) : (ns.map fun (x : Nat) => (x : Int)).idxOf (y : Int) = ns.idxOf y := by
  induction ns with
  | nil => rfl
  | cons n ns ih =>
    rw [List.map_cons, List.idxOf_cons, List.idxOf_cons, ih]
    have : (((n : Nat) : Int) == (y : Int)) = (n == y) := by
      rw [Bool.eq_iff_iff, beq_iff_eq, beq_iff_eq]
      omega
    rw [this]
theorem fIndexL_nats {ns : List Nat} {y : Nat} (hy : y ∈ ns) : fIndexL (.fl (ns.map nD)) [.int (y : Nat)] h = .ok (nD (ns.idxOf y)) h := by
  unfold fIndexL
  dsimp only
  have e : (lstOf h (.fl (ns.map nD))).bind (allM D.int?) = some (ns.map fun (x : Nat) => (x : Int)) := by
    rw [nD_map]
    exact allM_mkInts _
  rw [e]
  dsimp only
  rw [if_pos (List.mem_map.mpr ⟨y, hy, rfl⟩), idxOf_cast]
  rfl
theorem iRange1_of {j : Int} {k : Nat} (e : ta env h = .ok [.int j] h') (hj : j = (k : Nat)) (l : k ≤ 10000000) : iRange1 ta env h = .ok (.st (intsFrom 0 k)) h' := by
  subst hj
  rw [ap_iRange1, e]
  rw [bind_ok]
  dsimp only
  rw [if_pos ⟨by omega, by omega⟩, Int.toNat_natCast]
theorem iRange2_of {i j : Int} {k : Nat} (e : ta env h = .ok [.int i, .int j] h') (hj : j = i + (k : Nat)) (l0 : -10000000 ≤ i) (l : j ≤ 10000000) : iRange2 ta env h = .ok (.st (intsFrom i k)) h' := by
  subst hj
  rw [ap_iRange2, e]
  rw [bind_ok]
  dsimp only
  rw [if_pos ⟨by omega, by omega, by omega, by omega⟩, show (i + (k : Nat) - i).toNat = k by omega]
/-! what a loop's turn leaves -/
def Nx (P : EV → IH → Prop) (Rs : RS → Prop) : RS → Prop
  | .nx e h => P e h
  | .ct e h => P e h
  | .bk e h => Rs (.nx e h)
  | .rt d h => Rs (.rt d h)
  | .ex c d e h => Rs (.ex c d e h)
  | .no => Rs .no
section
variable {P : EV → IH → Prop} {Rs : RS → Prop}
@[simp] theorem Nx_nx : Nx P Rs (.nx env h) = P env h := rfl
@[simp] theorem Nx_ct : Nx P Rs (.ct env h) = P env h := rfl
@[simp] theorem Nx_bk : Nx P Rs (.bk env h) = Rs (.nx env h) := rfl
@[simp] theorem Nx_rt : Nx P Rs (.rt d h) = Rs (.rt d h) := rfl
@[simp] theorem Nx_ex {c : Str} {x : XF} : Nx P Rs (.ex c x env h) = Rs (.ex c x env h) := rfl
end
/-- a for over what stands still, by an invariant -/
theorem for_inv {ds : List D} {gg : MG} (P : Nat → EV → IH → Prop) (Rs : RS → Prop) (h0 : P 0 env h)
    (step : ∀ i d env h, ds[i]? = some d → P i env h → ∃ e1, gg d env = some e1 ∧ Nx (P (i + 1)) Rs (s e1 h)) (fin : ∀ env h, P ds.length env h → Rs (.nx env h)) : Rs (forM (.st ds) gg s ((Src.st ds).many h' + 1) 0 env h) := by
  refine forM_inv (h := h) P Rs (fun i d env h hd hp => ?_) fin h0
  obtain ⟨e1, g1, st⟩ := step i d env h hd hp
  refine ⟨e1, g1, ?_⟩
  revert st
  cases s e1 h <;> exact fun z => z
/-- a for that runs to its end -/
theorem for_nx {ds : List D} {gg : MG} (P : Nat → EV → IH → Prop) (h0 : P 0 env h)
    (step : ∀ i d env h, ds[i]? = some d → P i env h → ∃ e1 e2 h2, gg d env = some e1 ∧ s e1 h = .nx e2 h2 ∧ P (i + 1) e2 h2) : ∃ e2 h2, forM (.st ds) gg s ((Src.st ds).many h + 1) 0 env h = .nx e2 h2 ∧ P ds.length e2 h2 :=
  for_inv P (fun r => ∃ e2 h2, r = .nx e2 h2 ∧ P ds.length e2 h2) h0 (fun i d env h hd hp => by
    obtain ⟨e1, e2, h2, g1, g2, g3⟩ := step i d env h hd hp
    exact ⟨e1, g1, by rw [g2]; exact g3⟩) fun env h hp => ⟨env, h, rfl, hp⟩
/-- a for that runs to its end, or returns -/
theorem for_rt {ds : List D} {gg : MG} (P : Nat → EV → IH → Prop) (Q : D → IH → Prop) (h0 : P 0 env h)
    (step : ∀ i d env h, ds[i]? = some d → P i env h → ∃ e1, gg d env = some e1 ∧ ((∃ e2 h2, s e1 h = .nx e2 h2 ∧ P (i + 1) e2 h2) ∨ ∃ x h2, s e1 h = .rt x h2 ∧ Q x h2)) :
    (∃ e2 h2, forM (.st ds) gg s ((Src.st ds).many h + 1) 0 env h = .nx e2 h2 ∧ P ds.length e2 h2) ∨ ∃ x h2, forM (.st ds) gg s ((Src.st ds).many h + 1) 0 env h = .rt x h2 ∧ Q x h2 :=
  for_inv P (fun r => (∃ e2 h2, r = .nx e2 h2 ∧ P ds.length e2 h2) ∨ ∃ x h2, r = .rt x h2 ∧ Q x h2) h0 (fun i d env h hd hp => by
    obtain ⟨e1, g1, ⟨e2, h2, g2, g3⟩ | ⟨x, h2, g2, g3⟩⟩ := step i d env h hd hp
    · exact ⟨e1, g1, by rw [g2]; exact g3⟩
    · exact ⟨e1, g1, by rw [g2]; exact .inr ⟨x, h2, rfl, g3⟩⟩) fun env h hp => .inl ⟨env, h, rfl, hp⟩
theorem while_nx {c : MT} (P : Nat → EV → IH → Prop) (m : Nat) (env : EV) (h : IH) (h0 : P m env h)
    (step : ∀ m env h, P m env h → (∃ e2 h2, c env h = .ok true h ∧ s env h = .nx e2 h2 ∧ ∃ m', m' < m ∧ P m' e2 h2) ∨ c env h = .ok false h) : ∃ m e2 h2, msWhile c s env h = .nx e2 h2 ∧ P m e2 h2 ∧ c e2 h2 = .ok false h2 := by
  refine msWhile_inv P (fun r => ∃ m e2 h2, r = .nx e2 h2 ∧ P m e2 h2 ∧ c e2 h2 = .ok false h2) (fun m env h p => ?_) m env h h0
  rcases step m env h p with ⟨e2, h2, g1, g2, g3⟩ | g1
  · rw [g1]; dsimp only; rw [g2]
    exact g3
  · rw [g1]
    exact ⟨m, env, h, rfl, p, g1⟩
theorem while_inv {c : MT} (P : Nat → EV → IH → Prop) (Rs : RS → Prop) (m : Nat) (env : EV) (h : IH) (h0 : P m env h)
    (step : ∀ m env h, P m env h → ∃ b, c env h = .ok b h ∧ (if b = true then Nx (fun e2 h2 => ∃ m', m' < m ∧ P m' e2 h2) Rs (s env h) else Rs (.nx env h))) : Rs (msWhile c s env h) := by
  refine msWhile_inv P Rs (fun m env h p => ?_) m env h h0
  obtain ⟨b, e, st⟩ := step m env h p
  rw [e]
  cases b with
  | false => simpa using st
  | true =>
    simp only [if_true] at st
    dsimp only
    revert st
    cases s env h <;> exact fun z => z
/-- a comprehension that is locked at once: of what is reckoned of each -/
theorem lcF_map {it : MI} {gg : MG} {ws : List Nat} {ds : List D} (F : D → D) (hi : it env h = .ok (.st ds) h) (hl : ds.length ≤ 9000000) (lo : ∀ d ∈ ds, D.lo h.length (F d) = true)
    (step : ∀ d ∈ ds, ∃ e1, gg d (wipeE env ws) = some e1 ∧ ∀ x, m e1 (h ++ [x]) = .ok (F d) (h ++ [x])) : mFz (mLc it gg mYes m ws) env h = .ok (.fl (ds.map F)) h := by
  rw [ap_mFz0, ap_mLc, hi]
  show fzR h (lcM _ _ _ _ _ _ _ _ _) = _
  rw [lcM_map F hl step, fzR_at get_last (Nat.le_refl _) (loL_of fun x hx => by obtain ⟨d, hd, rfl⟩ := List.mem_map.mp hx; exact lo d hd) okB_self]
  simp
theorem lcF_filter {it : MI} {gg : MG} {ws : List Nat} {ds : List D} (F : D → D) (p : D → Bool) (hi : it env h = .ok (.st ds) h) (hl : ds.length ≤ 9000000) (lo : ∀ d ∈ ds, p d = true → D.lo h.length (F d) = true)
    (step : ∀ d ∈ ds, ∃ e1, gg d (wipeE env ws) = some e1 ∧ (∀ x, t e1 (h ++ [x]) = .ok (p d) (h ++ [x])) ∧ ∀ x, p d = true → m e1 (h ++ [x]) = .ok (F d) (h ++ [x])) : mFz (mLc it gg t m ws) env h = .ok (.fl ((ds.filter p).map F)) h := by
  rw [ap_mFz0, ap_mLc, hi]
  show fzR h (lcM _ _ _ _ _ _ _ _ _) = _
  rw [lcM_filter F p hl step, fzR_at get_last (Nat.le_refl _) (loL_of fun x hx => by
    obtain ⟨d, hd, rfl⟩ := List.mem_map.mp hx
    exact lo d (List.mem_filter.mp hd).1 (List.mem_filter.mp hd).2) okB_self]
  simp
/-- .. whose steps draw: Pn b c says that the pen's cell c can draw b times -/
theorem lcF_pen {it : MI} {gg : MG} {ws : List Nat} {ds : List D} {z c0 : Cell} {g : IH} {Pn : Nat → Cell → Prop} {b K : Nat} (lop : ∀ b c k, Pn b c → Cell.lo k c = true) (Po : Nat → D → Prop) (hi : it env (z :: c0 :: g) = .ok (.st ds) (z :: c0 :: g)) (hl : ds.length ≤ 9000000)
    (hp : Pn (b + K * ds.length) c0) (lo : ∀ i y k, Po i y → D.lo k y = true)
    (step : ∀ i d, ds[i]? = some d → ∃ e1, gg d (wipeE env ws) = some e1 ∧ ∀ b c g, Pn (b + K) c → ∃ y c', m e1 (z :: c :: g) = .ok y (z :: c' :: g) ∧ Pn b c' ∧ Po i y) :
    ∃ ys c', mFz (mLc it gg mYes m ws) env (z :: c0 :: g) = .ok (.fl ys) (z :: c' :: g) ∧ ys.length = ds.length ∧ (∀ i y, ys[i]? = some y → Po i y) ∧ Pn b c' := by
  have main : ∃ ys c', lcM (.st ds) gg mYes m (z :: c0 :: g).length ((Src.st ds).many (z :: c0 :: g) + 1) 0 (wipeE env ws) ((z :: c0 :: g) ++ [Cell.lst []]) = .ok (.ref (z :: c0 :: g).length) (z :: c' :: (g ++ [Cell.lst ys])) ∧ ys.length = ds.length ∧ (∀ i y, ys[i]? = some y → Po i y) ∧ Pn b c' := by
    refine lcM_inv (P := fun i h' => ∃ ys c', h' = z :: c' :: (g ++ [Cell.lst ys]) ∧ ys.length = i ∧ (∀ j y, ys[j]? = some y → Po j y) ∧ Pn (b + K * (ds.length - i)) c') (Rs := fun r => ∃ ys c', r = .ok (.ref (z :: c0 :: g).length) (z :: c' :: (g ++ [Cell.lst ys])) ∧ ys.length = ds.length ∧ (∀ i y, ys[i]? = some y → Po i y) ∧ Pn b c') ?_ ?_ ?_
    · rintro i d h' hd ⟨ys, c', rfl, l1, p1, n1⟩
      have hi' := (List.getElem?_eq_some_iff.mp hd).1
      obtain ⟨e1, g1, st⟩ := step i d hd
      have e0 : ds.length - i = (ds.length - (i + 1)) + 1 := by omega
      rw [e0, Nat.mul_succ, ← Nat.add_assoc] at n1
      obtain ⟨y, c2, e2, n2, p2⟩ := st _ c' (g ++ [Cell.lst ys]) n1
      refine ⟨e1, g1, ?_⟩
      show ∃ y h3 acc, m e1 _ = .ok y h3 ∧ _
      refine ⟨y, _, ys, e2, by simp, by omega, ys ++ [y], c2, by simp, by simp [l1], fun j z hz => ?_, n2⟩
      by_cases hj : j < ys.length
      · rw [List.getElem?_append_left hj] at hz
        exact p1 j z hz
      · have hj2 : j = ys.length := by
          have := (List.getElem?_eq_some_iff.mp hz).1
          simp at this
          omega
        subst hj2
        rw [List.getElem?_append_right (Nat.le_refl _), Nat.sub_self] at hz
        simp at hz
        subst hz
        rw [l1]
        exact p2
    · rintro h' ⟨ys, c', rfl, l1, p1, n1⟩
      rw [Nat.sub_self, Nat.mul_zero, Nat.add_zero] at n1
      exact ⟨ys, c', rfl, l1, p1, n1⟩
    · exact ⟨[], c0, by simp, rfl, by simp, by simpa using hp⟩
  obtain ⟨ys, c', e, l1, p1, n1⟩ := main
  refine ⟨ys, c', ?_, l1, p1, n1⟩
  rw [ap_mFz0, ap_mLc, hi]
  show fzR _ (lcM _ _ _ _ _ _ _ _ _) = _
  rw [e, fzR_at (xs := ys) (by simp) (Nat.le_refl _) (loL_of fun x hx => by
    obtain ⟨j, hj⟩ := List.mem_iff_getElem?.mp hx
    exact lo j x _ (p1 j x hj)) (by simp [lop b c' _ n1])]
  simp
/-! with the lengths as premises: for simp (disch := ..) -/
theorem dAdd_str {a b : List Nat} (l : a.length + b.length ≤ 10000000) : dAdd (.str a) (.str b) h = .ok (.str (a ++ b)) h := by rw [dAdd_str_if, if_pos l]
theorem dIAdd_str {a b : List Nat} (l : a.length + b.length ≤ 10000000) : dIAdd (.str a) (.str b) h = .ok (.str (a ++ b)) h := by rw [dIAdd_str_if, if_pos l]
theorem bLen_str {s : List Nat} (l : s.length ≤ 10000000) : bLen [.str s] h = .ok (.int (s.length : Nat)) h := by rw [bLen_str_if, if_pos l]
theorem sliceD_str {s : List Nat} {lo hi : Option Int} (l : s.length ≤ 10000000) : sliceD (.str s) lo hi h = .ok (.str (cutN s lo hi)) h := by rw [sliceD_str_if, if_pos l]
theorem iSeq_str {env : EV} {m : ME} {s : List Nat} (e : m env h = .ok (.str s) h') (l : s.length ≤ 10000000) : iSeq m env h = .ok (.st (s.map fun c => .str [c])) h' := by
  rw [ap_iSeq, e]
  rw [bind_ok]
  dsimp only
  rw [if_pos l]
end
theorem get_app {h l : IH} {k : Nat} : (h ++ l)[h.length + k]? = l[k]? := by
  rw [List.getElem?_append_right (by omega)]
  congr 1
  omega
theorem get_app0 {h l : IH} : (h ++ l)[h.length]? = l[0]? := by
  rw [List.getElem?_append_right (by omega)]
  congr 1
  omega
theorem set_app {h l : IH} {k : Nat} {c : Cell} : (h ++ l).set (h.length + k) c = h ++ l.set k c := by
  rw [List.set_append, if_neg (by omega)]
  congr 2
  omega
theorem set_app0 {h l : IH} {c : Cell} : (h ++ l).set h.length c = h ++ l.set 0 c := by
  rw [List.set_append, if_neg (by omega)]
  congr 2
  omega
theorem get_old {h l : IH} {j : Nat} {c : Cell} (e : h[j]? = some c) : (h ++ l)[j]? = some c := by
  rw [List.getElem?_append_left (List.getElem?_eq_some_iff.mp e).1]
  exact e
@[simp] theorem dIs_bl {neg : Bool} {a b : Bool} {h : IH} : dIsN neg (.bl a) (.bl b) h = .ok (.bl (if neg then !decide (a = b) else decide (a = b))) h := rfl
@[simp] theorem dIs_non {neg : Bool} {h : IH} : dIsN neg .non .non h = .ok (.bl (!neg)) h := rfl
@[simp] theorem isT_non {T : String} {h : IH} : isT T h .non = kitB "NoneType" T := rfl
@[simp] theorem isT_bl {T : String} {b : Bool} {h : IH} : isT T h (.bl b) = kitB "bool" T := rfl
@[simp] theorem isT_int {T : String} {b : Int} {h : IH} : isT T h (.int b) = kitB "int" T := rfl
@[simp] theorem isT_str {T : String} {b : List Nat} {h : IH} : isT T h (.str b) = kitB "str" T := rfl
@[simp] theorem isT_tup {T : String} {b : List D} {h : IH} : isT T h (.tup b) = kitB "tuple" T := rfl
theorem isT_lst {T : String} {n : Nat} {xs : List D} {h : IH} (e : h[n]? = some (.lst xs)) : isT T h (.ref n) = kitB "list" T := by
  unfold isT
  dsimp only
  rw [e]
theorem isT_dk {T : String} {n : Nat} {xs : List (DKey × D)} {h : IH} (e : h[n]? = some (.dk xs)) : isT T h (.ref n) = kitB "dict" T := by
  unfold isT
  dsimp only
  rw [e]
@[simp] theorem kit_NoneType_bool : kitB "NoneType" "bool" = some false := by decide +kernel
@[simp] theorem kit_NoneType_int : kitB "NoneType" "int" = some false := by decide +kernel
@[simp] theorem kit_NoneType_str : kitB "NoneType" "str" = some false := by decide +kernel
@[simp] theorem kit_NoneType_tuple : kitB "NoneType" "tuple" = some false := by decide +kernel
@[simp] theorem kit_NoneType_list : kitB "NoneType" "list" = some false := by decide +kernel
@[simp] theorem kit_NoneType_dict : kitB "NoneType" "dict" = some false := by decide +kernel
@[simp] theorem kit_bool_bool : kitB "bool" "bool" = some true := by decide +kernel
@[simp] theorem kit_bool_int : kitB "bool" "int" = some true := by decide +kernel
@[simp] theorem kit_bool_str : kitB "bool" "str" = some false := by decide +kernel
@[simp] theorem kit_bool_tuple : kitB "bool" "tuple" = some false := by decide +kernel
@[simp] theorem kit_bool_list : kitB "bool" "list" = some false := by decide +kernel
@[simp] theorem kit_bool_dict : kitB "bool" "dict" = some false := by decide +kernel
@[simp] theorem kit_int_bool : kitB "int" "bool" = some false := by decide +kernel
@[simp] theorem kit_int_int : kitB "int" "int" = some true := by decide +kernel
@[simp] theorem kit_int_str : kitB "int" "str" = some false := by decide +kernel
@[simp] theorem kit_int_tuple : kitB "int" "tuple" = some false := by decide +kernel
@[simp] theorem kit_int_list : kitB "int" "list" = some false := by decide +kernel
@[simp] theorem kit_int_dict : kitB "int" "dict" = some false := by decide +kernel
@[simp] theorem kit_str_bool : kitB "str" "bool" = some false := by decide +kernel
@[simp] theorem kit_str_int : kitB "str" "int" = some false := by decide +kernel
@[simp] theorem kit_str_str : kitB "str" "str" = some true := by decide +kernel
@[simp] theorem kit_str_tuple : kitB "str" "tuple" = some false := by decide +kernel
@[simp] theorem kit_str_list : kitB "str" "list" = some false := by decide +kernel
@[simp] theorem kit_str_dict : kitB "str" "dict" = some false := by decide +kernel
@[simp] theorem kit_tuple_bool : kitB "tuple" "bool" = some false := by decide +kernel
@[simp] theorem kit_tuple_int : kitB "tuple" "int" = some false := by decide +kernel
@[simp] theorem kit_tuple_str : kitB "tuple" "str" = some false := by decide +kernel
@[simp] theorem kit_tuple_tuple : kitB "tuple" "tuple" = some true := by decide +kernel
@[simp] theorem kit_tuple_list : kitB "tuple" "list" = some false := by decide +kernel
@[simp] theorem kit_tuple_dict : kitB "tuple" "dict" = some false := by decide +kernel
@[simp] theorem kit_list_bool : kitB "list" "bool" = some false := by decide +kernel
@[simp] theorem kit_list_int : kitB "list" "int" = some false := by decide +kernel
@[simp] theorem kit_list_str : kitB "list" "str" = some false := by decide +kernel
@[simp] theorem kit_list_tuple : kitB "list" "tuple" = some false := by decide +kernel
@[simp] theorem kit_list_list : kitB "list" "list" = some true := by decide +kernel
@[simp] theorem kit_list_dict : kitB "list" "dict" = some false := by decide +kernel
@[simp] theorem kit_dict_bool : kitB "dict" "bool" = some false := by decide +kernel
@[simp] theorem kit_dict_int : kitB "dict" "int" = some false := by decide +kernel
@[simp] theorem kit_dict_str : kitB "dict" "str" = some false := by decide +kernel
@[simp] theorem kit_dict_tuple : kitB "dict" "tuple" = some false := by decide +kernel
@[simp] theorem kit_dict_list : kitB "dict" "list" = some false := by decide +kernel
@[simp] theorem kit_dict_dict : kitB "dict" "dict" = some true := by decide +kernel
/-! == of data without truths -/
def D.nb : Nat → D → Bool
  | 0, _ => false
  | k + 1, d => match d with
    | .non => true
    | .int _ => true
    | .str _ => true
    | .tup l => l.all (D.nb k)
    | .fl l => l.all (D.nb k)
    | _ => false
theorem nb_py {h : IH} : ∀ {k : Nat} {d : D}, d.nb k = true → ∃ p, D.py h k d = some p := by
  intro k
  induction k with
  | zero => intro d e; simp [D.nb] at e
  | succ k ih =>
    have all : ∀ l : List D, l.all (D.nb k) = true → ∃ ps, allM (D.py h k) l = some ps := by
      intro l
      induction l with
      | nil => exact fun _ => ⟨[], rfl⟩
      | cons d l il =>
        intro e
        simp only [List.all_cons, Bool.and_eq_true] at e
        obtain ⟨p, hp⟩ := ih e.1
        obtain ⟨ps, hps⟩ := il e.2
        exact ⟨p :: ps, by unfold allM; rw [hp, hps]⟩
    intro d e
    cases d with
    | non => exact ⟨_, rfl⟩
    | int i => exact ⟨_, rfl⟩
    | str s => exact ⟨_, rfl⟩
    | tup l =>
      obtain ⟨ps, hps⟩ := all l (by simpa [D.nb] using e)
      exact ⟨.tuple ps, by simp [D.py, hps]⟩
    | fl l =>
      obtain ⟨ps, hps⟩ := all l (by simpa [D.nb] using e)
      exact ⟨.list ps, by simp [D.py, hps]⟩
    | _ => simp [D.nb] at e
theorem nb_eqv {h : IH} : ∀ {k : Nat} {x y : D} {p q : PyData}, x.nb k = true → y.nb k = true → D.py h k x = some p → D.py h k y = some q → (PyData.eqv p q = true ↔ x = y) := by
  intro k
  induction k with
  | zero => intro x y p q e; simp [D.nb] at e
  | succ k ih =>
    have all : ∀ (l m : List D) (ps qs : List PyData), l.all (D.nb k) = true → m.all (D.nb k) = true → allM (D.py h k) l = some ps → allM (D.py h k) m = some qs → (PyData.eqvAll ps qs = true ↔ l = m) := by
      intro l
      induction l with
      | nil =>
        intro m ps qs _ _ e1 e2
        simp only [allM, Option.some.injEq] at e1
        subst e1
        cases m with
        | nil => simp only [allM, Option.some.injEq] at e2; subst e2; simp [PyData.eqvAll]
        | cons d m => obtain ⟨a, as, _, _, rfl⟩ := allM_cons e2; simp [PyData.eqvAll]
      | cons d l il =>
        intro m ps qs a1 a2 e1 e2
        obtain ⟨p, ps', b1, b2, rfl⟩ := allM_cons e1
        simp only [List.all_cons, Bool.and_eq_true] at a1
        cases m with
        | nil => simp only [allM, Option.some.injEq] at e2; subst e2; simp [PyData.eqvAll]
        | cons d' m =>
          obtain ⟨q, qs', c1, c2, rfl⟩ := allM_cons e2
          simp only [List.all_cons, Bool.and_eq_true] at a2
          simp [PyData.eqvAll, ih a1.1 a2.1 b1 c1, il m ps' qs' a1.2 a2.2 b2 c2]
    intro x y p q nx ny ex ey
    cases x with
    | non => cases y with
      | non => simp [D.py] at ex ey; subst ex ey; simp [PyData.eqv]
      | int j => simp [D.py] at ex ey; subst ex ey; simp [PyData.eqv]
      | str t => simp [D.py] at ex ey; subst ex ey; simp [PyData.eqv]
      | tup m => simp only [D.py, Option.map_eq_some_iff] at ex ey; obtain ⟨qs, _, rfl⟩ := ey; simp at ex; subst ex; simp [PyData.eqv]
      | fl m => simp only [D.py, Option.map_eq_some_iff] at ex ey; obtain ⟨qs, _, rfl⟩ := ey; simp at ex; subst ex; simp [PyData.eqv]
      | _ => simp [D.nb] at ny
    | int i => cases y with
      | non => simp [D.py] at ex ey; subst ex ey; simp [PyData.eqv]
      | int j => simp [D.py] at ex ey; subst ex ey; simp [PyData.eqv]
      | str t => simp [D.py] at ex ey; subst ex ey; simp [PyData.eqv]
      | tup m => simp only [D.py, Option.map_eq_some_iff] at ex ey; obtain ⟨qs, _, rfl⟩ := ey; simp at ex; subst ex; simp [PyData.eqv]
      | fl m => simp only [D.py, Option.map_eq_some_iff] at ex ey; obtain ⟨qs, _, rfl⟩ := ey; simp at ex; subst ex; simp [PyData.eqv]
      | _ => simp [D.nb] at ny
    | str s => cases y with
      | non => simp [D.py] at ex ey; subst ex ey; simp [PyData.eqv]
      | int j => simp [D.py] at ex ey; subst ex ey; simp [PyData.eqv]
      | str t =>
        simp [D.py] at ex ey; subst ex ey
        rw [show PyData.eqv (.str (strV s)) (.str (strV t)) = (strV s == strV t) by simp [PyData.eqv], strV_eq]
        simp
      | tup m => simp only [D.py, Option.map_eq_some_iff] at ex ey; obtain ⟨qs, _, rfl⟩ := ey; simp at ex; subst ex; simp [PyData.eqv]
      | fl m => simp only [D.py, Option.map_eq_some_iff] at ex ey; obtain ⟨qs, _, rfl⟩ := ey; simp at ex; subst ex; simp [PyData.eqv]
      | _ => simp [D.nb] at ny
    | tup l =>
      simp only [D.py, Option.map_eq_some_iff] at ex
      obtain ⟨ps, e1, rfl⟩ := ex
      cases y with
      | non => simp [D.py] at ey; subst ey; simp [PyData.eqv]
      | int j => simp [D.py] at ey; subst ey; simp [PyData.eqv]
      | str t => simp [D.py] at ey; subst ey; simp [PyData.eqv]
      | tup m =>
        simp only [D.py, Option.map_eq_some_iff] at ey; obtain ⟨qs, e2, rfl⟩ := ey
        have := all l m ps qs (by simpa [D.nb] using nx) (by simpa [D.nb] using ny) e1 e2
        simp [PyData.eqv, this]
      | fl m => simp only [D.py, Option.map_eq_some_iff] at ey; obtain ⟨qs, _, rfl⟩ := ey; simp [PyData.eqv]
      | _ => simp [D.nb] at ny
    | fl l =>
      simp only [D.py, Option.map_eq_some_iff] at ex
      obtain ⟨ps, e1, rfl⟩ := ex
      cases y with
      | non => simp [D.py] at ey; subst ey; simp [PyData.eqv]
      | int j => simp [D.py] at ey; subst ey; simp [PyData.eqv]
      | str t => simp [D.py] at ey; subst ey; simp [PyData.eqv]
      | fl m =>
        simp only [D.py, Option.map_eq_some_iff] at ey; obtain ⟨qs, e2, rfl⟩ := ey
        have := all l m ps qs (by simpa [D.nb] using nx) (by simpa [D.nb] using ny) e1 e2
        simp [PyData.eqv, this]
      | tup m => simp only [D.py, Option.map_eq_some_iff] at ey; obtain ⟨qs, _, rfl⟩ := ey; simp [PyData.eqv]
      | _ => simp [D.nb] at ny
    | _ => simp [D.nb] at nx
open Classical in
theorem dEq_nb {neg : Bool} {h : IH} {x y : D} (nx : x.nb 50 = true) (ny : y.nb 50 = true) : dEq neg x y h = .ok (.bl (if neg then !decide (x = y) else decide (x = y))) h := by
  obtain ⟨p, hp⟩ := nb_py (h := h) nx
  obtain ⟨q, hq⟩ := nb_py (h := h) ny
  unfold dEq
  rw [hp, hq]
  dsimp only
  have : PyData.eqv p q = decide (x = y) := by
    rw [Bool.eq_iff_iff, nb_eqv nx ny hp hq]
    simp
  rw [this]
/-- a comprehension that is locked at once: each item by what is known of it -/
theorem lcF_ex {env : EV} {h : IH} {m : ME} {it : MI} {gg : MG} {ws : List Nat} {ds : List D} (Po : Nat → D → Prop) (hi : it env h = .ok (.st ds) h) (hl : ds.length ≤ 9000000)
    (step : ∀ i d, ds[i]? = some d → ∃ e1 y, gg d (wipeE env ws) = some e1 ∧ (∀ x, m e1 (h ++ [x]) = .ok y (h ++ [x])) ∧ D.lo h.length y = true ∧ Po i y) : ∃ ys, mFz (mLc it gg mYes m ws) env h = .ok (.fl ys) h ∧ ys.length = ds.length ∧ ∀ i y, ys[i]? = some y → Po i y := by
  let F : D → D := fun d => match gg d (wipeE env ws) with
    | some e1 => match m e1 (h ++ [Cell.lst []]) with
      | .ok y _ => y
      | _ => .non
    | none => .non
  have eF : ∀ i d, ds[i]? = some d → ∃ e1, gg d (wipeE env ws) = some e1 ∧ (∀ x, m e1 (h ++ [x]) = .ok (F d) (h ++ [x])) ∧ D.lo h.length (F d) = true ∧ Po i (F d) := fun i d hd => by
    obtain ⟨e1, y, g1, g2, g3, g4⟩ := step i d hd
    have : F d = y := by
      show (match gg d (wipeE env ws) with
        | some e1 => match m e1 (h ++ [Cell.lst []]) with
          | .ok y _ => y
          | _ => D.non
        | none => D.non) = y
      rw [g1]
      dsimp only
      rw [g2]
    rw [this]
    exact ⟨e1, g1, g2, g3, g4⟩
  refine ⟨ds.map F, lcF_map F hi hl (fun d hd => ?_) (fun d hd => ?_), by simp, fun i y hy => ?_⟩
  · obtain ⟨i, hi⟩ := List.mem_iff_getElem?.mp hd
    obtain ⟨_, _, _, g3, _⟩ := eF i d hi
    exact g3
  · obtain ⟨i, hi⟩ := List.mem_iff_getElem?.mp hd
    obtain ⟨e1, g1, g2, _⟩ := eF i d hi
    exact ⟨e1, g1, g2⟩
  · rw [List.getElem?_map] at hy
    cases q : ds[i]? with
    | none => rw [q] at hy; cases hy
    | some d =>
      rw [q] at hy
      cases hy
      obtain ⟨_, _, _, _, g4⟩ := eF i d q
      exact g4
/-- items of a list, each by what is known of it -/
theorem list_of {A B : Type} {f : A → B} {Po : Nat → A → Prop} : ∀ {ys : List B}, (∀ i y, ys[i]? = some y → ∃ a, y = f a ∧ Po i a) → ∃ as : List A, ys = as.map f ∧ ∀ i a, as[i]? = some a → Po i a
  | [], _ => ⟨[], rfl, by simp⟩
  | y :: ys, h => by
    obtain ⟨a, rfl, pa⟩ := h 0 y rfl
    obtain ⟨as, rfl, ps⟩ := list_of (Po := fun i => Po (i + 1)) (ys := ys) fun i z hz => h (i + 1) z (by simpa using hz)
    exact ⟨a :: as, rfl, fun i b hb => by
      cases i with
      | zero => simp at hb; subst hb; exact pa
      | succ i => exact ps i b (by simpa using hb)⟩
/-- of a number's item -/
def natP (p : Nat → Bool) : D → Bool
  | .int k => p k.toNat
  | _ => false
def natF (f : Nat → D) : D → D
  | .int k => f k.toNat
  | d => d
@[simp] theorem natP_int {p : Nat → Bool} {x : Nat} : natP p (.int (x : Nat)) = p x := rfl
@[simp] theorem natF_int {f : Nat → D} {x : Nat} : natF f (.int (x : Nat)) = f x := rfl
@[simp] theorem natP_nD {p : Nat → Bool} {x : Nat} : natP p (nD x) = p x := rfl
@[simp] theorem natF_nD {f : Nat → D} {x : Nat} : natF f (nD x) = f x := rfl
theorem natP_filter (ss : List Nat) (p : Nat → Bool) : (ss.map nD).filter (natP p) = (ss.filter p).map nD := by
  rw [List.filter_map]
  rfl
theorem natF_map (ss : List Nat) (f : Nat → D) : (ss.map nD).map (natF f) = ss.map f := by
  rw [List.map_map]
  rfl
/-- of a sign's item -/
def sgP (p : Nat → Bool) : D → Bool
  | .str [k] => p k
  | _ => false
def sgF (f : Nat → D) : D → D
  | .str [k] => f k
  | d => d
@[simp] theorem sgP_str {p : Nat → Bool} {x : Nat} : sgP p (.str [x]) = p x := rfl
@[simp] theorem sgF_str {f : Nat → D} {x : Nat} : sgF f (.str [x]) = f x := rfl
theorem sgP_filter (ss : List Nat) (p : Nat → Bool) : (sgD ss).filter (sgP p) = sgD (ss.filter p) := by
  unfold sgD
  rw [List.filter_map]
  rfl
theorem sgF_map (ss : List Nat) (f : Nat → D) : (sgD ss).map (sgF f) = ss.map f := by
  unfold sgD
  rw [List.map_map]
  rfl
theorem intsFrom_nD (n : Nat) : intsFrom 0 n = (List.range n).map nD := by simp [intsFrom, nD]
end NR

set_option Elab.async false
set_option linter.all false
set_option maxRecDepth 100000
set_option maxHeartbeats 4000000
namespace NR
open PySem PySem.Spec PyProof.Rows L2
/-! ### a pen's cell -/
def PQ (cs : List Int) (a g : Int) : Cell := .lst [.fl (cs.map D.int), .int a, .int g]
/-- b draws can still be made -/
def Pn (b : Nat) (c : Cell) : Prop := ∃ (cs : List Int) (a g : Int), c = PQ cs a g ∧ cs.length ≤ 63 ∧ 0 ≤ a ∧ a + b ≤ 1000000000000 ∧ 0 ≤ g
theorem Pn.mono {b b' : Nat} {c : Cell} (h : Pn b c) (l : b' ≤ b) : Pn b' c := by
  obtain ⟨cs, a, g, h1, h2, h3, h4, h5⟩ := h
  exact ⟨cs, a, g, h1, h2, h3, by omega, h5⟩
theorem Pn.lo {b : Nat} {c : Cell} (h : Pn b c) (k : Nat) : Cell.lo k c = true := by
  obtain ⟨cs, a, g, rfl, _⟩ := h
  simp [PQ]
theorem Pn_lo : ∀ (b : Nat) (c : Cell) (k : Nat), Pn b c → Cell.lo k c = true := fun _ _ k h => h.lo k
theorem draw_call {b : Nat} {z c : Cell} {g : IH} {m : Int} (h : Pn (b + 1) c) (h1 : 1 ≤ m) (h2 : m ≤ 1000000) :
    ∃ (t : Nat) (c' : Cell), callC 2 m__law_take [.ref 1, .int m] (z :: c :: g) = .ok (.int (t : Nat)) (z :: c' :: g) ∧ (t : Int) < m ∧ Pn b c' := by
  obtain ⟨cs, a, gr, rfl, cl, a0, a1, g0⟩ := h
  have hm1 : (0 : Int) < m := by omega
  have hm2 : m < 18446744073709551616 := by omega
  have i0 : ∀ x y : Int, dIx (.ref 1) (.int 0) (z :: PQ cs x y :: g) = .ok (.fl (cs.map D.int)) (z :: PQ cs x y :: g) := fun x y => dIx_ref (n := 1) rfl (by omega) rfl
  have i1 : ∀ x y : Int, dIx (.ref 1) (.int 1) (z :: PQ cs x y :: g) = .ok (.int x) (z :: PQ cs x y :: g) := fun x y => dIx_ref (n := 1) rfl (by omega) rfl
  have i2 : ∀ x y : Int, dIx (.ref 1) (.int 2) (z :: PQ cs x y :: g) = .ok (.int y) (z :: PQ cs x y :: g) := fun x y => dIx_ref (n := 1) rfl (by omega) rfl
  have q1 : ∀ x y v : Int, putD (.ref 1) (.int 1) (.int v) (z :: PQ cs x y :: g) = some (z :: PQ cs v y :: g) := fun x y v => putD_ref (n := 1) (xs := [.fl (cs.map D.int), .int x, .int y]) rfl (by omega) (by simp)
  have q2 : ∀ x y v : Int, putD (.ref 1) (.int 2) (.int v) (z :: PQ cs x y :: g) = some (z :: PQ cs x v :: g) := fun x y v => putD_ref (n := 1) (xs := [.fl (cs.map D.int), .int x, .int y]) rfl (by omega) (by simp)
  have fin : ∀ (t x y : Int), m__law_take [.ref 1, .int m] (z :: PQ cs a gr :: g) = .ok (.int t) (z :: PQ cs x y :: g) → 0 ≤ t → t < m → 0 ≤ x → x ≤ a + 1 → 0 ≤ y → _ := fun t x y e t0 t1 x0 x1 y0 =>
    (⟨t.toNat, PQ cs x y, callC_len rfl (by rw [e, Int.toNat_of_nonneg t0]) (by simp), by omega, cs, x, y, rfl, cl, x0, by omega, y0⟩ : ∃ (t : Nat) (c' : Cell), callC 2 m__law_take [.ref 1, .int m] (z :: PQ cs a gr :: g) = .ok (.int (t : Nat)) (z :: c' :: g) ∧ (t : Int) < m ∧ Pn b c')
  by_cases hg : 0 < gr
  · refine fin (gr % m) a (gr / m) ?_ (Int.emod_nonneg _ (by omega)) (Int.emod_lt_of_pos _ hm1) a0 (by omega) (Int.ediv_nonneg g0 (by omega))
    unfold m__law_take
    simp [i2, q2, hg, cMod, cDiv, hm1, hm2, dI]
  · have hg0 : gr = 0 := by omega
    subst hg0
    -- the number
    have last : ∀ (y : Int), ∃ N : Int, 0 ≤ N ∧ ∀ s5 : Option D, ∃ s6 : Option D, ∀ h : IH, (msCons (msSet 6 (mOp dMod (mOp dPow (mOp dAdd (mOp dAdd (mOp dMod (mVar 4) (mC (.int 2147483587))) (mOp dMul (mC (.int 40709)) (mVar 3))) (mC (.int 31))) (mC (.int 3))) (mC (.int 2147483647))))
      (msCons (msSet 6 (mOp dMod (mOp dAdd (mOp dAdd (mOp dMul (mVar 6) (mVar 6)) (mOp dMul (mC (.int 48271)) (mVar 6))) (mVar 3)) (mC (.int 2147483629))))
      (msRet (mOp dMod (mOp dDiv (mVar 6) (mC (.int 64))) (mVar 1))))) [some (.ref 1), some (.int m), none, some (.int a), some (.int y), s5, none] h = .rt (.int (N % m)) h := by
      intro y
      generalize hY : y % 2147483587 = Y
      have y0 : 0 ≤ Y := by rw [← hY]; exact Int.emod_nonneg _ (by omega)
      have y1 : Y < 2147483587 := by rw [← hY]; exact Int.emod_lt_of_pos _ (by omega)
      have w1 : (Y + 40709 * a + 31).natAbs < 18446744073709551616 := by omega
      generalize hN : (Y + 40709 * a + 31) ^ 3 % 2147483647 = N
      have n0 : 0 ≤ N := by rw [← hN]; exact Int.emod_nonneg _ (by omega)
      have n1 : N < 2147483647 := by rw [← hN]; exact Int.emod_lt_of_pos _ (by omega)
      have c1 : cMul N N = true := by simp [cMul]; omega
      have c2 : cMul 48271 N = true := by simp [cMul]
      have c3 : cMul 40709 a = true := by simp [cMul]
      refine ⟨(N * N + 48271 * N + a) % 2147483629 / 64, Int.ediv_nonneg (Int.emod_nonneg _ (by omega)) (by omega), fun s5 => ⟨none, fun h => ?_⟩⟩
      simp [cMod, cPow, cDiv, hY, c1, c2, c3, w1, hN, hm1, hm2]
    by_cases c0 : cs = []
    · subst c0
      obtain ⟨N, n0, e⟩ := last 5
      obtain ⟨s6, e⟩ := e none
      refine fin (N % m) (a + 1) 0 ?_ (Int.emod_nonneg _ (by omega)) (Int.emod_lt_of_pos _ hm1) (by omega) (by omega) (by omega)
      have a0' : ¬ a < 0 := by omega
      unfold m__law_take
      generalize (msCons (msSet 6 (mOp dMod (mOp dPow (mOp dAdd (mOp dAdd (mOp dMod (mVar 4) (mC (.int 2147483587))) (mOp dMul (mC (.int 40709)) (mVar 3))) (mC (.int 31))) (mC (.int 3))) (mC (.int 2147483647))))
      (msCons (msSet 6 (mOp dMod (mOp dAdd (mOp dAdd (mOp dMul (mVar 6) (mVar 6)) (mOp dMul (mC (.int 48271)) (mVar 6))) (mVar 3)) (mC (.int 2147483629))))
      (msRet (mOp dMod (mOp dDiv (mVar 6) (mC (.int 64))) (mVar 1))))) = F at e
      simp at i0 i1 i2 q1 q2
      simp [i0, i1, i2, q1, q2, e, a0']
    · have lp : 0 < cs.length := List.length_pos_iff.mpr c0
      have lp' : (0 : Int) < (cs.length : Nat) := by omega
      have r0 : 0 ≤ a % (cs.length : Nat) := Int.emod_nonneg _ (by omega)
      have r1 : a % (cs.length : Nat) < (cs.length : Nat) := Int.emod_lt_of_pos _ lp'
      generalize hr : a % (cs.length : Nat) = r at r0 r1
      have hi : r.toNat < cs.length := by omega
      have gx : ∀ h : IH, dIx (.fl (cs.map D.int)) (.int r) h = .ok (.int cs[r.toNat]) h := fun h => dIx_seq rfl r0 (by rw [List.getElem?_map, List.getElem?_eq_getElem hi]; rfl)
      generalize cs[r.toNat] = y at gx
      have cm : cMod a (cs.length : Nat) = true := by simp [cMod]; omega
      have c2' : cMul 2 (if y < 0 then -y else y) = true := by simp [cMul]
      by_cases c2 : a < cs.length
      · by_cases c3 : 1000000000000000000 ≤ (if y < 0 then -y else y)
        · have G0 : 0 ≤ 2 * (if y < 0 then -y else y) + (if y < 0 then 1 else 0) := by split <;> omega
          refine fin ((2 * (if y < 0 then -y else y) + (if y < 0 then 1 else 0)) % m) (a + 1) ((2 * (if y < 0 then -y else y) + (if y < 0 then 1 else 0)) / m) ?_ (Int.emod_nonneg _ (by omega)) (Int.emod_lt_of_pos _ hm1) (by omega) (by omega) (Int.ediv_nonneg G0 (by omega))
          unfold m__law_take
          simp [i0, i1, i2, q1, q2, lp, cm, hr, gx, c2, c3, cPow, c2', cMod, cDiv, hm1, hm2]
        · obtain ⟨N, n0, e⟩ := last y
          obtain ⟨s6, e⟩ := e none
          refine fin (N % m) (a + 1) 0 ?_ (Int.emod_nonneg _ (by omega)) (Int.emod_lt_of_pos _ hm1) (by omega) (by omega) (by omega)
          unfold m__law_take
          generalize (msCons (msSet 6 (mOp dMod (mOp dPow (mOp dAdd (mOp dAdd (mOp dMod (mVar 4) (mC (.int 2147483587))) (mOp dMul (mC (.int 40709)) (mVar 3))) (mC (.int 31))) (mC (.int 3))) (mC (.int 2147483647))))
          (msCons (msSet 6 (mOp dMod (mOp dAdd (mOp dAdd (mOp dMul (mVar 6) (mVar 6)) (mOp dMul (mC (.int 48271)) (mVar 6))) (mVar 3)) (mC (.int 2147483629))))
          (msRet (mOp dMod (mOp dDiv (mVar 6) (mC (.int 64))) (mVar 1))))) = F at e
          simp [i0, i1, i2, q1, q2, lp, cm, hr, gx, c2, c3, cPow, e]
      · obtain ⟨N, n0, e⟩ := last y
        obtain ⟨s6, e⟩ := e none
        refine fin (N % m) (a + 1) 0 ?_ (Int.emod_nonneg _ (by omega)) (Int.emod_lt_of_pos _ hm1) (by omega) (by omega) (by omega)
        unfold m__law_take
        generalize (msCons (msSet 6 (mOp dMod (mOp dPow (mOp dAdd (mOp dAdd (mOp dMod (mVar 4) (mC (.int 2147483587))) (mOp dMul (mC (.int 40709)) (mVar 3))) (mC (.int 31))) (mC (.int 3))) (mC (.int 2147483647))))
        (msCons (msSet 6 (mOp dMod (mOp dAdd (mOp dAdd (mOp dMul (mVar 6) (mVar 6)) (mOp dMul (mC (.int 48271)) (mVar 6))) (mVar 3)) (mC (.int 2147483629))))
        (msRet (mOp dMod (mOp dDiv (mVar 6) (mC (.int 64))) (mVar 1))))) = F at e
        simp [i0, i1, i2, q1, q2, lp, cm, hr, gx, c2, e]
theorem source_eq (ns : List Int) (hl : ns.length ≤ 63) : ∃ c, callC 1 m__law_pen [.ref 0] [.frz (ns.map D.int)] = .ok (.ref 1) [.frz (ns.map D.int), c] ∧ Pn 999999999999 c := by
  have e0 : cutD (ns.map D.int) none (some 63) = ns.map D.int := by
    rw [cutD_to (by omega), List.take_of_length_le (by simp; omega)]
  have e1 : sliceD (.ref 0) none (some 63) [.frz (ns.map D.int)] = newL [.frz (ns.map D.int)] (ns.map D.int) := by
    unfold sliceD
    simp [lstOf, e0, newL]
  have e2 : fzD [.frz (ns.map D.int)] [.frz (ns.map D.int)] (ns.map D.int) = .ok (.fl (ns.map D.int)) [.frz (ns.map D.int)] := fzD_same (by simp)
  refine ⟨PQ ns 0 0, callC_new rfl ?_ (by simp), ns, 0, 0, rfl, hl, by omega, by omega, by omega⟩
  unfold m__law_pen
  simp [e1, fz_newL, e2, newL_bindS, PQ]
end NR

set_option Elab.async false
set_option linter.all false
set_option maxRecDepth 100000
set_option maxHeartbeats 4000000
namespace NR
open PySem PySem.Spec PyProof.Rows L2
def allSigns : List Nat := [32, 33, 34, 35, 36, 38, 39, 40, 41, 42, 43, 44, 45, 46, 47, 48, 49, 50, 51, 52, 53, 54, 55, 56, 57, 58, 59, 60, 61, 62, 63, 64, 65, 66, 67, 68, 69, 70, 71, 72, 73, 74, 75, 76, 77, 78, 79, 80, 81, 82, 83, 84, 85, 86, 87, 88, 89, 90, 91, 92, 93, 94, 95, 96, 97, 98, 99, 100, 101, 102, 103, 104, 105, 106, 107, 108, 109, 110, 111, 112, 113, 114, 115, 116, 117, 118, 119, 120, 121, 122, 123, 124, 125, 126, 10]
theorem allSigns_nodup : allSigns.Nodup := by decide
theorem allSigns_len : allSigns.length = 95 := by decide
theorem signs_call (h : IH) : callC 0 m__law_signs [] h = .ok (.str allSigns) h := callC_same rfl (by unfold m__law_signs; simp [dAdd_str_if, allSigns])
/-- a tongue -/
structure Tgn (t : List Nat) : Prop where
  l1 : 1 ≤ t.length
  l2 : t.length ≤ 6
  nd : t.Nodup
  sub : ∀ c ∈ t, c ∈ allSigns
theorem erase_cut (l : List Nat) (i : Nat) : l.take i ++ l.drop (i + 1) = l.eraseIdx i := (List.eraseIdx_eq_take_drop_succ l i).symm
theorem nodup_erase {l : List Nat} (h : l.Nodup) (i : Nat) : (l.eraseIdx i).Nodup := h.sublist (List.eraseIdx_sublist l i)
theorem not_mem_erase {l : List Nat} (h : l.Nodup) {i c : Nat} (e : l[i]? = some c) : c ∉ l.eraseIdx i := by
  intro hm
  rw [List.mem_eraseIdx_iff_getElem?] at hm
  obtain ⟨j, hj, ej⟩ := hm
  obtain ⟨h1, e1⟩ := List.getElem?_eq_some_iff.mp e
  obtain ⟨h2, e2⟩ := List.getElem?_eq_some_iff.mp ej
  have hp := List.pairwise_iff_getElem.mp h
  rcases Nat.lt_or_gt_of_ne hj with l1 | l1
  · exact hp j i h2 h1 l1 (e2.trans e1.symm)
  · exact hp i j h1 h2 l1 (e1.trans e2.symm)
theorem some_call {b : Nat} {z c : Cell} {g : IH} {R : List Nat} {m : Nat} (nR : R.Nodup) (m1 : 1 ≤ m) (m2 : m ≤ R.length) (rl : R.length ≤ 1000) (hp : Pn (b + m + 1) c) :
    ∃ t c', callC 3 m__law_some [.ref 1, .str R, .int (m : Nat)] (z :: c :: g) = .ok (.str t) (z :: c' :: g) ∧ 1 ≤ t.length ∧ t.length ≤ m ∧ t.Nodup ∧ (∀ x ∈ t, x ∈ R) ∧ Pn b c' := by
  obtain ⟨t, c1, e1, t1, p1⟩ := draw_call (b := b + m) (z := z) (g := g) (m := (m : Nat)) hp (by omega) (by omega)
  have tm : t < m := by omega
  have main : ∃ f c' x y rs, forM (.st (intsFrom 0 (1 + (t : Int)).toNat)) (gSet 4) b__law_some_1 ((Src.st (intsFrom 0 (1 + (t : Int)).toNat)).many (z :: c1 :: g) + 1) 0 [some (.ref 1), some (.str R), some (.int (m : Nat)), some (.str []), none, none] (z :: c1 :: g) =
      .nx [some (.ref 1), some (.str rs), some (.int (m : Nat)), some (.str f), x, y] (z :: c' :: g) ∧ 1 ≤ f.length ∧ f.length ≤ m ∧ f.Nodup ∧ (∀ x ∈ f, x ∈ R) ∧ Pn b c' := by
    have lk : (intsFrom 0 (1 + (t : Int)).toNat).length = t + 1 := by simp [intsFrom]; omega
    refine for_inv (P := fun i env h => ∃ (f rs : List Nat) (c' : Cell) (x y : Option D), env = [some (.ref 1), some (.str rs), some (.int (m : Nat)), some (.str f), x, y] ∧ h = z :: c' :: g ∧ f.length = i ∧ rs.length + i = R.length ∧ f.Nodup ∧ rs.Nodup ∧ (∀ k ∈ f, k ∉ rs) ∧ (∀ k ∈ f, k ∈ R) ∧ (∀ k ∈ rs, k ∈ R) ∧ i ≤ m ∧ Pn (b + (m - i)) c')
      (Rs := fun r => ∃ f c' x y rs, r = .nx [some (.ref 1), some (.str rs), some (.int (m : Nat)), some (.str f), x, y] (z :: c' :: g) ∧ 1 ≤ f.length ∧ f.length ≤ m ∧ f.Nodup ∧ (∀ x ∈ f, x ∈ R) ∧ Pn b c')
      ⟨[], R, c1, none, none, rfl, rfl, rfl, by simp, by simp, nR, by simp, by simp, fun c hc => hc, by omega, p1⟩ ?_ ?_
    · rintro i d env h hd ⟨f, rs, c', x, y, rfl, rfl, lf, lr, nf, nr, dj, s1, s2, i6, p⟩
      have hi : i < t + 1 := by
        have := (List.getElem?_eq_some_iff.mp hd).1
        omega
      refine ⟨_, rfl, ?_⟩
      obtain ⟨u, c2, e2, u1, p2⟩ := draw_call (b := b + (m - (i + 1))) (z := z) (g := g) (m := rs.length) (p.mono (by omega)) (by omega) (by omega)
      have hu : u < rs.length := by omega
      have hc : rs[u]? = some rs[u] := List.getElem?_eq_getElem hu
      generalize rs[u] = k at hc
      have hkm : k ∈ rs := List.mem_of_getElem? hc
      have b1 : ∀ h, bLen [.str rs] h = .ok (.int (rs.length : Nat)) h := fun h => bLen_str (by omega)
      have b2 : ∀ h, dIx (.str rs) (.int (u : Nat)) h = .ok (.str [k]) h := fun h => dIx_str (by omega) (by simpa using hc) (by omega)
      have b3 : ∀ h, dAdd (.str f) (.str [k]) h = .ok (.str (f ++ [k])) h := fun h => dAdd_str (by simp; omega)
      have b4 : ∀ h, sliceD (.str rs) none (some (u : Nat)) h = .ok (.str (rs.take u)) h := fun h => by rw [sliceD_str (by omega), cutN_to (by omega)]; simp
      have b5 : ∀ h, sliceD (.str rs) (some ((u : Nat) + 1)) none h = .ok (.str (rs.drop (u + 1))) h := fun h => by rw [sliceD_str (by omega), cutN_from (by omega)]; congr 2
      have b6 : ∀ h, dAdd (.str (rs.take u)) (.str (rs.drop (u + 1))) h = .ok (.str (rs.eraseIdx u)) h := fun h => by
        rw [dAdd_str, erase_cut]
        rw [List.length_take, List.length_drop]
        omega
      unfold b__law_some_1
      simp only [ap_msCons, ap_msSet, ap_msAug, ap_mCall, ap_mCons, ap_mNil, ap_mVar, ap_mB, ap_mOp, ap_mFz_slice, ap_mFz_op, ap_mSlice, ap_moNone, ap_moSome, ap_mC, bind_ok, bindS_ok, then_nx, List.set_cons_zero, List.set_cons_succ, List.getElem?_cons_zero, List.getElem?_cons_succ, b1, e2, b2, b3, b4, b5, b6, dAdd_int, fz_str, Nx_nx]
      refine ⟨f ++ [k], rs.eraseIdx u, c2, _, _, rfl, rfl, by simp; omega, ?_, ?_, nodup_erase nr _, ?_, ?_, fun j hj => s2 j ((List.eraseIdx_sublist _ _).subset hj), by omega, p2⟩
      · rw [List.length_eraseIdx, if_pos (by omega)]
        omega
      · rw [List.nodup_append]
        exact ⟨nf, by simp, fun a ha j hj => by rw [List.mem_singleton] at hj; subst hj; exact fun z => dj a ha (z ▸ hkm)⟩
      · intro a ha
        rcases List.mem_append.mp ha with ha | ha
        · exact fun z => dj a ha ((List.eraseIdx_sublist _ _).subset z)
        · rw [List.mem_singleton] at ha
          subst ha
          exact not_mem_erase nr hc
      · intro a ha
        rcases List.mem_append.mp ha with ha | ha
        · exact s1 a ha
        · rw [List.mem_singleton] at ha
          subst ha
          exact s2 a hkm
    · rintro env h ⟨f, rs, c', x, y, rfl, rfl, lf, lr, nf, nr, dj, s1, s2, i6, p⟩
      rw [lk] at lf
      exact ⟨f, c', x, y, rs, rfl, by omega, by omega, nf, s1, p.mono (by omega)⟩
  obtain ⟨f, c', x, y, rs, ef, f1, f2, f3, f4, p'⟩ := main
  refine ⟨f, c', callC_pen0 rfl ?_, f1, f2, f3, f4, p'⟩
  unfold m__law_some
  simp [e1, show -10000000 ≤ 1 + (t : Int) ∧ 1 + (t : Int) ≤ 10000000 by omega, ef]
theorem tongue_some {b : Nat} {z c : Cell} {g : IH} (hp : Pn (b + 7) c) :
    ∃ t c', callC 3 m__law_some [.ref 1, .str allSigns, .int 6] (z :: c :: g) = .ok (.str t) (z :: c' :: g) ∧ Tgn t ∧ Pn b c' := by
  obtain ⟨t, c', e, h1, h2, h3, h4, p⟩ := some_call (b := b) (z := z) (c := c) (g := g) (R := allSigns) (m := 6) allSigns_nodup (by omega) (by decide) (by decide) hp
  exact ⟨t, c', e, ⟨h1, h2, h3, h4⟩, p⟩
end NR

set_option Elab.async false
set_option linter.all false
set_option maxRecDepth 100000
set_option maxHeartbeats 4000000
/-! What is equal: plain trees up to the truths' numbers. -/
namespace NR
open PySem PySem.Spec PyProof.Rows L2
mutual
def D.nm : D → D
  | .bl b => .int (if b then 1 else 0)
  | .tup l => .tup (D.nmL l)
  | .fl l => .fl (D.nmL l)
  | d => d
def D.nmL : List D → List D
  | [] => []
  | d :: l => D.nm d :: D.nmL l
end
theorem nmL_map : ∀ l : List D, D.nmL l = l.map D.nm
  | [] => rfl
  | d :: l => by simp [D.nmL, nmL_map l]
@[simp] theorem nm_non : D.nm .non = .non := rfl
@[simp] theorem nm_int {i : Int} : D.nm (.int i) = .int i := rfl
@[simp] theorem nm_str {i : List Nat} : D.nm (.str i) = .str i := rfl
@[simp] theorem nm_bl {b : Bool} : D.nm (.bl b) = .int (if b then 1 else 0) := rfl
@[simp] theorem nm_tup {l : List D} : D.nm (.tup l) = .tup (l.map D.nm) := by rw [← nmL_map]; rfl
@[simp] theorem nm_fl {l : List D} : D.nm (.fl l) = .fl (l.map D.nm) := by rw [← nmL_map]; rfl
/-- a plain tree -/
def D.pl : Nat → D → Bool
  | 0, _ => false
  | k + 1, d => match d with
    | .non => true
    | .bl _ => true
    | .int _ => true
    | .str _ => true
    | .tup l => l.all (D.pl k)
    | .fl l => l.all (D.pl k)
    | _ => false
theorem pl_mono : ∀ {k : Nat} {d : D}, d.pl k = true → d.pl (k + 1) = true := by
  intro k
  induction k with
  | zero => intro d e; simp [D.pl] at e
  | succ k ih =>
    intro d e
    cases d with
    | tup l =>
      simp only [D.pl, List.all_eq_true] at e ⊢
      exact fun x hx => ih (e x hx)
    | fl l =>
      simp only [D.pl, List.all_eq_true] at e ⊢
      exact fun x hx => ih (e x hx)
    | non => rfl
    | bl b => rfl
    | int i => rfl
    | str s => rfl
    | _ => simp [D.pl] at e
theorem pl_le {j k : Nat} (l : j ≤ k) {d : D} (h : d.pl j = true) : d.pl k = true := by
  induction l with
  | refl => exact h
  | step _ ih => exact pl_mono ih
theorem allM_all {A : Type} {f : D → Option A} : ∀ {l : List D}, (∀ d ∈ l, ∃ a, f d = some a) → ∃ as, allM f l = some as
  | [], _ => ⟨[], rfl⟩
  | d :: l, h => by
    obtain ⟨a, ea⟩ := h d List.mem_cons_self
    obtain ⟨as, eas⟩ := allM_all fun x hx => h x (List.mem_cons_of_mem _ hx)
    exact ⟨a :: as, by unfold allM; rw [ea, eas]⟩
theorem pl_py {h : IH} : ∀ {k : Nat} {d : D}, d.pl k = true → ∃ p, D.py h k d = some p := by
  intro k
  induction k with
  | zero => intro d e; simp [D.pl] at e
  | succ k ih =>
    intro d e
    cases d with
    | non => exact ⟨_, rfl⟩
    | bl b => exact ⟨_, rfl⟩
    | int i => exact ⟨_, rfl⟩
    | str s => exact ⟨_, rfl⟩
    | tup l =>
      simp only [D.pl, List.all_eq_true] at e
      obtain ⟨ps, hps⟩ := allM_all fun d hd => ih (e d hd)
      exact ⟨.tuple ps, by simp [D.py, hps]⟩
    | fl l =>
      simp only [D.pl, List.all_eq_true] at e
      obtain ⟨ps, hps⟩ := allM_all fun d hd => ih (e d hd)
      exact ⟨.list ps, by simp [D.py, hps]⟩
    | _ => simp [D.pl] at e
theorem pl_eqv {h : IH} : ∀ {k k' : Nat} {x y : D} {p q : PyData}, x.pl k = true → y.pl k' = true → D.py h k x = some p → D.py h k' y = some q → (PyData.eqv p q = true ↔ x.nm = y.nm) := by
  intro k
  induction k with
  | zero => intro k' x y p q e; simp [D.pl] at e
  | succ k ih =>
    intro k'
    cases k' with
    | zero => intro x y p q _ e; simp [D.pl] at e
    | succ k' =>
    have all : ∀ (l m : List D) (ps qs : List PyData), l.all (D.pl k) = true → m.all (D.pl k') = true → allM (D.py h k) l = some ps → allM (D.py h k') m = some qs → (PyData.eqvAll ps qs = true ↔ l.map D.nm = m.map D.nm) := by
      intro l
      induction l with
      | nil =>
        intro m ps qs _ _ e1 e2
        simp only [allM, Option.some.injEq] at e1
        subst e1
        cases m with
        | nil => simp only [allM, Option.some.injEq] at e2; subst e2; simp [PyData.eqvAll]
        | cons d m => obtain ⟨a, as, _, _, rfl⟩ := allM_cons e2; simp [PyData.eqvAll]
      | cons d l il =>
        intro m ps qs a1 a2 e1 e2
        obtain ⟨p, ps', b1, b2, rfl⟩ := allM_cons e1
        simp only [List.all_cons, Bool.and_eq_true] at a1
        cases m with
        | nil => simp only [allM, Option.some.injEq] at e2; subst e2; simp [PyData.eqvAll]
        | cons d' m =>
          obtain ⟨q, qs', c1, c2, rfl⟩ := allM_cons e2
          simp only [List.all_cons, Bool.and_eq_true] at a2
          simp [PyData.eqvAll, ih a1.1 a2.1 b1 c1, il m ps' qs' a1.2 a2.2 b2 c2]
    intro x y p q nx ny ex ey
    have bi : ∀ (b : Bool) (j : Int), ((if b then (1 : Int) else 0) == j) = decide ((if b then (1 : Int) else 0) = j) := fun b j => by cases b <;> rfl
    cases x with
    | non => cases y with
      | non => simp [D.py] at ex ey; subst ex ey; simp [PyData.eqv]
      | bl j => simp [D.py] at ex ey; subst ex ey; simp [PyData.eqv]
      | int j => simp [D.py] at ex ey; subst ex ey; simp [PyData.eqv]
      | str t => simp [D.py] at ex ey; subst ex ey; simp [PyData.eqv]
      | tup m => simp only [D.py, Option.map_eq_some_iff] at ex ey; obtain ⟨qs, _, rfl⟩ := ey; simp at ex; subst ex; simp [PyData.eqv]
      | fl m => simp only [D.py, Option.map_eq_some_iff] at ex ey; obtain ⟨qs, _, rfl⟩ := ey; simp at ex; subst ex; simp [PyData.eqv]
      | _ => simp [D.pl] at ny
    | bl i => cases y with
      | non => simp [D.py] at ex ey; subst ex ey; simp [PyData.eqv]
      | bl j => simp [D.py] at ex ey; subst ex ey; cases i <;> cases j <;> simp [PyData.eqv]
      | int j => simp [D.py] at ex ey; subst ex ey; simp [PyData.eqv]
      | str t => simp [D.py] at ex ey; subst ex ey; simp [PyData.eqv]
      | tup m => simp only [D.py, Option.map_eq_some_iff] at ex ey; obtain ⟨qs, _, rfl⟩ := ey; simp at ex; subst ex; simp [PyData.eqv]
      | fl m => simp only [D.py, Option.map_eq_some_iff] at ex ey; obtain ⟨qs, _, rfl⟩ := ey; simp at ex; subst ex; simp [PyData.eqv]
      | _ => simp [D.pl] at ny
    | int i => cases y with
      | non => simp [D.py] at ex ey; subst ex ey; simp [PyData.eqv]
      | bl j => simp [D.py] at ex ey; subst ex ey; simp [PyData.eqv]
      | int j => simp [D.py] at ex ey; subst ex ey; simp [PyData.eqv]
      | str t => simp [D.py] at ex ey; subst ex ey; simp [PyData.eqv]
      | tup m => simp only [D.py, Option.map_eq_some_iff] at ex ey; obtain ⟨qs, _, rfl⟩ := ey; simp at ex; subst ex; simp [PyData.eqv]
      | fl m => simp only [D.py, Option.map_eq_some_iff] at ex ey; obtain ⟨qs, _, rfl⟩ := ey; simp at ex; subst ex; simp [PyData.eqv]
      | _ => simp [D.pl] at ny
    | str s => cases y with
      | non => simp [D.py] at ex ey; subst ex ey; simp [PyData.eqv]
      | bl j => simp [D.py] at ex ey; subst ex ey; simp [PyData.eqv]
      | int j => simp [D.py] at ex ey; subst ex ey; simp [PyData.eqv]
      | str t =>
        simp [D.py] at ex ey; subst ex ey
        rw [show PyData.eqv (.str (strV s)) (.str (strV t)) = (strV s == strV t) by simp [PyData.eqv], strV_eq]
        simp
      | tup m => simp only [D.py, Option.map_eq_some_iff] at ex ey; obtain ⟨qs, _, rfl⟩ := ey; simp at ex; subst ex; simp [PyData.eqv]
      | fl m => simp only [D.py, Option.map_eq_some_iff] at ex ey; obtain ⟨qs, _, rfl⟩ := ey; simp at ex; subst ex; simp [PyData.eqv]
      | _ => simp [D.pl] at ny
    | tup l =>
      simp only [D.py, Option.map_eq_some_iff] at ex
      obtain ⟨ps, e1, rfl⟩ := ex
      cases y with
      | non => simp [D.py] at ey; subst ey; simp [PyData.eqv]
      | bl j => simp [D.py] at ey; subst ey; simp [PyData.eqv]
      | int j => simp [D.py] at ey; subst ey; simp [PyData.eqv]
      | str t => simp [D.py] at ey; subst ey; simp [PyData.eqv]
      | tup m =>
        simp only [D.py, Option.map_eq_some_iff] at ey; obtain ⟨qs, e2, rfl⟩ := ey
        have := all l m ps qs (by simpa [D.pl] using nx) (by simpa [D.pl] using ny) e1 e2
        simp [PyData.eqv, this]
      | fl m => simp only [D.py, Option.map_eq_some_iff] at ey; obtain ⟨qs, _, rfl⟩ := ey; simp [PyData.eqv]
      | _ => simp [D.pl] at ny
    | fl l =>
      simp only [D.py, Option.map_eq_some_iff] at ex
      obtain ⟨ps, e1, rfl⟩ := ex
      cases y with
      | non => simp [D.py] at ey; subst ey; simp [PyData.eqv]
      | bl j => simp [D.py] at ey; subst ey; simp [PyData.eqv]
      | int j => simp [D.py] at ey; subst ey; simp [PyData.eqv]
      | str t => simp [D.py] at ey; subst ey; simp [PyData.eqv]
      | fl m =>
        simp only [D.py, Option.map_eq_some_iff] at ey; obtain ⟨qs, e2, rfl⟩ := ey
        have := all l m ps qs (by simpa [D.pl] using nx) (by simpa [D.pl] using ny) e1 e2
        simp [PyData.eqv, this]
      | tup m => simp only [D.py, Option.map_eq_some_iff] at ey; obtain ⟨qs, _, rfl⟩ := ey; simp [PyData.eqv]
      | _ => simp [D.pl] at ny
    | _ => simp [D.pl] at nx
open Classical in
theorem dEq_pl {neg : Bool} {h : IH} {x y : D} (nx : x.pl 50 = true) (ny : y.pl 50 = true) : dEq neg x y h = .ok (.bl (if neg then !decide (x.nm = y.nm) else decide (x.nm = y.nm))) h := by
  obtain ⟨p, hp⟩ := pl_py (h := h) nx
  obtain ⟨q, hq⟩ := pl_py (h := h) ny
  unfold dEq
  rw [hp, hq]
  dsimp only
  have : PyData.eqv p q = decide (x.nm = y.nm) := by
    rw [Bool.eq_iff_iff, pl_eqv nx ny hp hq]
    simp
  rw [this]
/-- a list in the heap is told as its items -/
theorem py_ref {h : IH} {n : Nat} {xs : List D} (e : h[n]? = some (.lst xs)) {k : Nat} : D.py h k (.ref n) = D.py h k (.fl xs) := by
  cases k with
  | zero => rfl
  | succ k =>
    show (match h[n]? with | some (.lst xs) => _ | some (.frz xs) => _ | _ => _) = _
    rw [e]
    rfl
theorem dEq_ref {neg : Bool} {h : IH} {n : Nat} {xs : List D} {y : D} (e : h[n]? = some (.lst xs)) : dEq neg (.ref n) y h = dEq neg (.fl xs) y h := by
  unfold dEq
  rw [py_ref e]
theorem dEq_ref2 {neg : Bool} {h : IH} {n : Nat} {xs : List D} {x : D} (e : h[n]? = some (.lst xs)) : dEq neg x (.ref n) h = dEq neg x (.fl xs) h := by
  unfold dEq
  rw [py_ref e]
open Classical in
theorem dIn_pl {neg : Bool} {h : IH} {x y : D} {ys : List D} (e : seqOf h y = some ys) (nx : x.pl 50 = true) (ny : ∀ d ∈ ys, D.pl 49 d = true) : dIn neg x y h = .ok (.bl (if neg then !decide (x.nm ∈ ys.map D.nm) else decide (x.nm ∈ ys.map D.nm))) h := by
  obtain ⟨p, hp⟩ := pl_py (h := h) nx
  have main : ∀ {ys : List D}, (∀ d ∈ ys, D.pl 49 d = true) → ∃ qs, allM (D.py h 49) ys = some qs ∧ (qs.any fun z => PyData.eqv z p) = decide (x.nm ∈ ys.map D.nm) := by
    intro ys
    induction ys with
    | nil => exact fun _ => ⟨[], rfl, by simp⟩
    | cons d ys ih =>
      intro hy
      obtain ⟨qs, e1, e2⟩ := ih fun z hz => hy z (List.mem_cons_of_mem _ hz)
      obtain ⟨q, hq⟩ := pl_py (h := h) (hy d List.mem_cons_self)
      refine ⟨q :: qs, by unfold allM; rw [hq, e1], ?_⟩
      rw [List.any_cons, e2, Bool.eq_iff_iff]
      simp [pl_eqv (hy d List.mem_cons_self) nx hq hp]
      simp [eq_comm]
  obtain ⟨qs, e1, e2⟩ := main ny
  have e3 : (seqOf h y).bind (allM (D.py h 49)) = some qs := by rw [e]; exact e1
  have : dIn neg x y h = match D.py h 50 x, (seqOf h y).bind (allM (D.py h 49)) with
    | some a, some bs => .ok (.bl (if neg then !(bs.any fun z => PyData.eqv z a) else bs.any fun z => PyData.eqv z a)) h
    | _, _ => .no := by
    unfold dIn
    split
    · simp [seqOf] at e
    · rfl
  rw [this, hp, e3]
  dsimp only
  rw [e2]
theorem bTupleX_ref {h : IH} {n : Nat} {xs : List D} (e : h[n]? = some (.lst xs)) : bTupleX [.ref n] h = .ok (.tup xs) h := by
  show bTuple [.ref n] h = _
  unfold bTuple
  dsimp only
  rw [lstOf_ref e]
@[simp] theorem pl_non {k : Nat} : D.pl (k + 1) .non = true := rfl
@[simp] theorem pl_int {k : Nat} {i : Int} : D.pl (k + 1) (.int i) = true := rfl
@[simp] theorem pl_bl {k : Nat} {i : Bool} : D.pl (k + 1) (.bl i) = true := rfl
@[simp] theorem pl_str {k : Nat} {i : List Nat} : D.pl (k + 1) (.str i) = true := rfl
theorem pl_fl {k : Nat} {l : List D} : D.pl (k + 1) (.fl l) = l.all (D.pl k) := rfl
theorem pl_tup {k : Nat} {l : List D} : D.pl (k + 1) (.tup l) = l.all (D.pl k) := rfl
theorem pl_all {k : Nat} {l : List D} (h : ∀ d ∈ l, D.pl k d = true) : l.all (D.pl k) = true := List.all_eq_true.mpr h
theorem pl_ints {k : Nat} {l : List Int} : (l.map D.int).all (D.pl (k + 1)) = true := pl_all fun d hd => by
  obtain ⟨x, _, rfl⟩ := List.mem_map.mp hd
  rfl
theorem dEq_self {d : D} {h : IH} {neg : Bool} (p : d.pl 50 = true) : dEq neg d d h = .ok (.bl (!neg)) h := by
  rw [dEq_pl p p]
  cases neg <;> simp
@[simp] theorem ap_mFz_dict0 {env : EV} {h : IH} : mFz (mDict []) env h = .ok (.fd [] []) h := by
  have e : mDict [] env h = .ok (.ref h.length) (h ++ [.dk []]) := by
    simp [mDict, mPr, R.bind, keyPs, dkAt]
  rw [ap_mFz0, e]
  unfold fzR
  simp
/-! what is known of a value -/
def D.kn : D → Bool
  | .ref _ => false
  | .exc _ => false
  | _ => true
def D.isI : D → Bool
  | .int _ => true
  | _ => false
def D.kn2 : D → Bool
  | .tup l => l.all D.kn
  | d => d.kn
theorem isT_int_kn {d : D} {h : IH} (k : d.kn = true) : isT "int" h d = some (d.isI || (match d with | .bl _ => true | _ => false)) := by
  cases d with
  | ref n => cases k
  | exc n => cases k
  | _ => simp [D.isI]
theorem isT_bool_kn {d : D} {h : IH} (k : d.kn = true) : isT "bool" h d = some (match d with | .bl _ => true | _ => false) := by
  cases d with
  | ref n => cases k
  | exc n => cases k
  | _ => simp
theorem isT_tuple_kn {d : D} {h : IH} (k : d.kn = true) : isT "tuple" h d = some (match d with | .tup _ => true | _ => false) := by
  cases d with
  | ref n => cases k
  | exc n => cases k
  | _ => simp
theorem sIx_neg {n d k : Nat} (h0 : 1 ≤ k) (h1 : k ≤ n) : HT.sIx n d (some (-(k : Int))) = n - k := by
  show (if -(k : Int) < 0 then (-(k : Int) + (n : Int)).toNat else min (-(k : Int)).toNat n) = _
  rw [if_pos (by omega)]
  omega
theorem cutD_neg {xs : List D} {k : Nat} (h0 : 1 ≤ k) (h1 : k ≤ xs.length) : cutD xs none (some (-(k : Int))) = xs.take (xs.length - k) := by
  show (xs.drop (HT.sIx xs.length 0 none)).take (HT.sIx xs.length xs.length (some (-(k : Int))) - HT.sIx xs.length 0 none) = _
  rw [sIx_neg h0 h1]
  simp [HT.sIx]
theorem cutN_neg {xs : List Nat} {k : Nat} (h0 : 1 ≤ k) (h1 : k ≤ xs.length) : cutN xs none (some (-(k : Int))) = xs.take (xs.length - k) := by
  show (xs.drop (HT.sIx xs.length 0 none)).take (HT.sIx xs.length xs.length (some (-(k : Int))) - HT.sIx xs.length 0 none) = _
  rw [sIx_neg h0 h1]
  simp [HT.sIx]
end NR

set_option Elab.async false
set_option linter.all false
set_option maxRecDepth 100000
set_option maxHeartbeats 1000000
/-! A for over what stands still, by its items. -/
namespace NR
open PySem PySem.Spec PyProof.Rows L2
def forL (g : MG) (b : MS) : List D → EV → IH → RS
  | [], env, h => .nx env h
  | d :: ds, env, h => match g d env with
    | none => .no
    | some e1 => match b e1 h with
      | .nx e2 h2 => forL g b ds e2 h2
      | .ct e2 h2 => forL g b ds e2 h2
      | .bk e2 h2 => .nx e2 h2
      | r => r
/-- what follows a turn -/
def RS.on (k : EV → IH → RS) : RS → RS
  | .nx e h => k e h
  | .ct e h => k e h
  | .bk e h => .nx e h
  | r => r
section
variable {g : MG} {b : MS} {env e1 : EV} {h h' : IH} {d : D} {ds : List D} {k : EV → IH → RS}
@[simp] theorem on_nx : (RS.nx env h).on k = k env h := rfl
@[simp] theorem on_ct : (RS.ct env h).on k = k env h := rfl
@[simp] theorem on_bk : (RS.bk env h).on k = .nx env h := rfl
@[simp] theorem on_rt : (RS.rt d h).on k = .rt d h := rfl
@[simp] theorem on_ex {c : Str} {x : XF} : (RS.ex c x env h).on k = .ex c x env h := rfl
@[simp] theorem forL_nil : forL g b [] env h = .nx env h := rfl
theorem forL_cons (e : g d env = some e1) : forL g b (d :: ds) env h = (b e1 h).on (forL g b ds) := by
  show (match g d env with
    | none => _
    | some e1 => _) = _
  rw [e]
  dsimp only
  cases b e1 h <;> rfl
theorem forM_forL : forM (.st ds) g b ((Src.st ds).many h' + 1) 0 env h = forL g b ds env h := by
  have go : ∀ (m i : Nat) (env : EV) (h : IH), i + m = ds.length + 1 → i ≤ ds.length → forM (.st ds) g b m i env h = forL g b (ds.drop i) env h := by
    intro m
    induction m with
    | zero => 
      intro i env h e l
      omega
    | succ m ih =>
      intro i env h e l
      unfold forM
      rw [if_pos (show (Src.st ds).ok h = true from rfl)]
      show (match ds[i]? with
        | none => _
        | some d => _) = _
      cases hd : ds[i]? with
      | none =>
        rw [List.drop_eq_nil_of_le (List.getElem?_eq_none_iff.mp hd)]
        rfl
      | some d =>
        obtain ⟨hi, hx⟩ := List.getElem?_eq_some_iff.mp hd
        rw [List.drop_eq_getElem_cons hi, hx]
        dsimp only [forL]
        cases g d env with
        | none => rfl
        | some e1 =>
          dsimp only
          cases b e1 h <;> first | rfl | exact ih (i + 1) _ _ (by omega) (by omega)
  exact go _ 0 env h (by show 0 + (ds.length + 1) = _; omega) (Nat.zero_le _)
theorem forL_app {as bs : List D} {env : EV} {h : IH} {e2 : EV} {h2 : IH} (e : forL g b as env h = .nx e2 h2) (nb : ∀ (i : Nat) (d : D) (env : EV) (h : IH) (e1 : EV), as[i]? = some d → g d env = some e1 → ∀ e2 h2, b e1 h ≠ .bk e2 h2) : forL g b (as ++ bs) env h = forL g b bs e2 h2 := by
  induction as generalizing env h with
  | nil => cases e; rfl
  | cons d as ih =>
    cases hg : g d env with
    | none => simp [forL, hg] at e
    | some e1 =>
      rw [List.cons_append, forL_cons hg]
      rw [forL_cons hg] at e
      have nb0 := nb 0 d env h e1 rfl hg
      have nb' : ∀ (i : Nat) (d : D) (env : EV) (h : IH) (e1 : EV), as[i]? = some d → g d env = some e1 → ∀ e2 h2, b e1 h ≠ .bk e2 h2 := fun i d env h e1 q => nb (i + 1) d env h e1 (by simpa using q)
      revert e nb0
      cases b e1 h with
      | nx e3 h3 => intro e _; exact ih e nb'
      | ct e3 h3 => intro e _; exact ih e nb'
      | bk e3 h3 => intro _ nb0; exact absurd rfl (nb0 e3 h3)
      | rt _ _ => intro e; cases e
      | ex _ _ _ _ => intro e; cases e
      | no => intro e; cases e
end
/-! ### dicts whose keys are numbers from nought -/
def lookN {A : Type} (d : List (Nat × A)) (k : Nat) : Option A := (d.find? fun p => decide (p.1 = k)).map (·.2)
def dkN {A : Type} (f : A → D) (d : List (Nat × A)) : List (DKey × D) := d.map fun p => (Sum.inl (p.1 : Int), f p.2)
theorem valKD_dkN {A : Type} {f : A → D} (k : Nat) : ∀ (d : List (Nat × A)), valKD (dkN f d) (Sum.inl (k : Int)) = (lookN d k).map f
  | [] => rfl
  | p :: d => by
    have ih := valKD_dkN (f := f) k d
    unfold valKD lookN at *
    unfold dkN at *
    rw [List.map_cons, List.find?_cons, List.find?_cons]
    by_cases e : p.1 = k
    · have : (Sum.inl (p.1 : Int) : DKey) = Sum.inl (k : Int) := by rw [e]
      simp [e]
    · have : ¬ ((Sum.inl (p.1 : Int) : DKey) = Sum.inl (k : Int)) := fun z => e (by injection z with z; omega)
      simp only [decide_eq_false this, decide_eq_false e]
      exact ih
theorem putKD_dkN {A : Type} {f : A → D} {k : Nat} {a : A} {d : List (Nat × A)} (e : lookN d k = none) : putKD (dkN f d) (Sum.inl (k : Int)) (f a) = dkN f (d ++ [(k, a)]) := by
  have h : ((dkN f d).any fun p => decide (p.1 = (Sum.inl (k : Int) : DKey))) = false := by
    rw [List.any_eq_false]
    intro p hp
    obtain ⟨q, hq, rfl⟩ := List.mem_map.mp hp
    simp only [decide_eq_true_eq]
    intro z
    injection z with z
    have : q.1 = k := by omega
    unfold lookN at e
    rw [Option.map_eq_none_iff, List.find?_eq_none] at e
    exact e q hq (by simpa using this)
  unfold putKD
  rw [h, if_neg Bool.false_ne_true]
  simp [dkN]
theorem lookN_none {A : Type} {d : List (Nat × A)} {k : Nat} : lookN d k = none ↔ k ∉ d.map (·.1) := by
  unfold lookN
  rw [Option.map_eq_none_iff, List.find?_eq_none]
  simp only [decide_eq_true_eq, List.mem_map, not_exists, not_and]
theorem lookN_some {A : Type} {d : List (Nat × A)} {k : Nat} {a : A} (e : lookN d k = some a) : (k, a) ∈ d := by
  unfold lookN at e
  rw [Option.map_eq_some_iff] at e
  obtain ⟨p, h1, h2⟩ := e
  have h3 := List.mem_of_find?_eq_some h1
  have h4 := List.find?_some h1
  simp only [decide_eq_true_eq] at h4
  subst h2
  subst h4
  exact h3
theorem lookN_app {A : Type} {d e : List (Nat × A)} {k : Nat} : lookN (d ++ e) k = match lookN d k with | some a => some a | none => lookN e k := by
  unfold lookN
  rw [List.find?_append]
  cases d.find? fun p => decide (p.1 = k) <;> rfl
@[simp] theorem dkN_len {A : Type} {f : A → D} {d : List (Nat × A)} : (dkN f d).length = d.length := by simp [dkN]
theorem dDIn_dk {A : Type} {f : A → D} {h : IH} {n k : Nat} {neg : Bool} {d : List (Nat × A)} (e : h[n]? = some (.dk (dkN f d))) : dDIn neg (.int (k : Nat)) (.ref n) h = .ok (.bl (if neg then (lookN d k).isNone else (lookN d k).isSome)) h := by
  unfold dDIn dGet?
  simp only [e, keyD?, Option.map_some, valKD_dkN, Option.isSome_map]
  cases lookN d k <;> rfl
theorem dDGet_dk {A : Type} {f : A → D} {h : IH} {n k : Nat} {d : List (Nat × A)} {a : A} (e : h[n]? = some (.dk (dkN f d))) (l : lookN d k = some a) : dDGet (.ref n) (.int (k : Nat)) h = .ok (f a) h := by
  unfold dDGet dGet?
  simp only [e, keyD?, Option.map_some, valKD_dkN, l]
theorem putDD_dk {A : Type} {f : A → D} {h : IH} {n k : Nat} {d : List (Nat × A)} {a : A} (e : h[n]? = some (.dk (dkN f d))) (l : lookN d k = none) (hl : d.length < 10000000) : putDD (.ref n) (.int (k : Nat)) (f a) h = some (h.set n (.dk (dkN f (d ++ [(k, a)])))) := by
  unfold putDD
  simp only [e, keyD?, dkN_len, if_pos hl, putKD_dkN l]
@[simp] theorem ap_msSetD {mo mi me : ME} {env : EV} {h : IH} : msSetD mo mi me env h = (me env h).bindS env fun v h1 => (mo env h1).bindS env fun o h2 => (mi env h2).bindS env fun i h3 => match putDD o i v h3 with
  | some h4 => .nx env h4
  | none => .no := rfl
@[simp] theorem ap_mDGet1 {mo mi : ME} {env : EV} {h : IH} : mDGet1 mo mi env h = (mo env h).bind fun x h1 => if isDD h1 x = true then (mi env h1).bind fun y h2 => dDGet1 x y h2 else .no := rfl
@[simp] theorem ap_mDictT {env : EV} {h : IH} : mDictT env h = .ok (.ref h.length) (h ++ [.dt []]) := rfl
theorem ap_mDict1 {mk mv : ME} {env : EV} {h : IH} {k v : D} {kd : DKey} (e1 : mk env (h ++ [.dk []]) = .ok k (h ++ [.dk []])) (e2 : mv env (h ++ [.dk []]) = .ok v (h ++ [.dk []])) (e3 : keyD? k = some kd) : mDict [(mk, mv)] env h = .ok (.ref h.length) (h ++ [.dk [(kd, v)]]) := by
  unfold mDict mPr
  rw [e1]
  simp only [bind_ok]
  rw [e2]
  simp [mPr, keyPs, e3, dkAt, putKD]
@[simp] theorem ap_iRange3 {ta : MA} {env : EV} {h : IH} : iRange3 ta env h = (ta env h).bind fun xs h1 => match xs with
  | [.int i, .int j, .int c] => if c = -1 ∧ -10000000 ≤ i ∧ i ≤ 10000000 ∧ -10000000 ≤ j ∧ j ≤ 10000000 then .ok (.st (intsDown i (i - j).toNat)) h1 else .no
  | _ => .no := rfl
/-- signs beside the rooms of a row -/
def zD (t row : List Nat) : List D := List.zipWith (fun x y : D => D.tup [x, y]) (t.map fun c => .str [c]) (row.map nD)
@[simp] theorem zD_len {t row : List Nat} : (zD t row).length = min t.length row.length := by simp [zD]
theorem zip_get {t row : List Nat} {i : Nat} {d : D} (e : (zD t row)[i]? = some d) : ∃ c s, t[i]? = some c ∧ row[i]? = some s ∧ d = .tup [.str [c], .int (s : Nat)] := by
  unfold zD at e
  rw [List.getElem?_zipWith] at e
  simp only [List.getElem?_map] at e
  cases q1 : t[i]? with
  | none => rw [q1] at e; cases e
  | some c =>
    cases q2 : row[i]? with
    | none => rw [q1, q2] at e; cases e
    | some s => rw [q1, q2] at e; cases e; exact ⟨c, s, rfl, rfl, rfl⟩
def zP (p : Nat × Nat) : D := .tup [.str [p.1], nD p.2]
theorem zD_eq : ∀ {t row : List Nat}, zD t row = (t.zip row).map zP
  | [], _ => rfl
  | _ :: _, [] => rfl
  | c :: t, s :: row => by
    have := zD_eq (t := t) (row := row)
    unfold zD at *
    simp [this, zP]
theorem intsFrom_succ {lo : Int} {n : Nat} : intsFrom lo (n + 1) = .int lo :: intsFrom (lo + 1) n := by
  unfold intsFrom
  rw [List.range_succ_eq_map, List.map_cons, List.map_map]
  congr 1
  · simp
  · refine List.map_congr_left fun i _ => ?_
    show D.int _ = D.int _
    congr 1
    simp only [Nat.succ_eq_add_one, Int.natCast_add, Int.natCast_one]
    omega
@[simp] theorem ap_msBreak {env : EV} {h : IH} : msBreak env h = .bk env h := rfl
@[simp] theorem ap_msCont {env : EV} {h : IH} : msCont env h = .ct env h := rfl
@[simp] theorem ap_msRetN {env : EV} {h : IH} : msRetN env h = .rt .non h := rfl
end NR

set_option Elab.async false
set_option linter.all false
set_option maxRecDepth 100000
set_option maxHeartbeats 4000000
namespace NR
open PySem PySem.Spec PyProof.Rows L2
theorem intsFrom_get {lo : Int} {n i : Nat} {d : D} (h : (intsFrom lo n)[i]? = some d) : i < n ∧ d = .int (lo + (i : Nat)) := by
  rw [ints_get] at h
  split at h
  · rename_i hi
    cases h
    exact ⟨hi, rfl⟩
  · cases h
@[simp] theorem intsFrom_len {lo : Int} {n : Nat} : (intsFrom lo n).length = n := by simp [intsFrom]
/-- the slots of _law_rooms -/
theorem sgs_of {t : List Nat} : ∀ {ys : List D}, (∀ y ∈ ys, ∃ k, k ∈ t ∧ y = .str [k]) → ∃ s : List Nat, ys = sgD s ∧ ∀ k ∈ s, k ∈ t
  | [], _ => ⟨[], rfl, by simp⟩
  | y :: ys, h => by
    obtain ⟨k, hk, rfl⟩ := h y List.mem_cons_self
    obtain ⟨s, rfl, hs⟩ := sgs_of fun z hz => h z (List.mem_cons_of_mem _ hz)
    exact ⟨k :: s, rfl, by simpa using ⟨hk, hs⟩⟩
theorem join_sg {s : List Nat} {h : IH} (l : s.length ≤ 10000000) : fJoin (.str []) [.fl (sgD s)] h = .ok (.str s) h := by
  have e : sgD s = (s.map fun c => [c]).map D.str := by unfold sgD; rw [List.map_map]; rfl
  have f : (s.map fun c => [c]).flatten = s := by
    clear l e
    induction s with
    | nil => rfl
    | cons c s ih => simp [ih]
  unfold fJoin
  dsimp only
  rw [seqOf_fl, e]
  show (match allM D.str? ((s.map fun c => [c]).map D.str) with | some ys => _ | none => _) = _
  rw [allM_mkStrs]
  dsimp only
  rw [sum_lens, f, List.length_nil, Nat.mul_zero, Nat.add_zero, joinN_nil, f, if_pos l]
/-- .. whose steps draw: Pn b c says that the pen's cell c can draw b times -/
theorem lcF_penI {env : EV} {m : ME} {it : MI} {gg : MG} {ws : List Nat} {ds : List D} {z cc c0 : Cell} {g : IH} {Pn : Nat → Cell → Prop} {b K : Nat} (lop : ∀ b c k, Pn b c → Cell.lo k c = true) (Po : Nat → D → Prop) (hi : it env (z :: cc :: g) = .ok (.st ds) (z :: c0 :: g)) (hl : ds.length ≤ 9000000)
    (hp : Pn (b + K * ds.length) c0) (lo : ∀ i y k, Po i y → D.lo k y = true)
    (step : ∀ i d, ds[i]? = some d → ∃ e1, gg d (wipeE env ws) = some e1 ∧ ∀ b c g, Pn (b + K) c → ∃ y c', m e1 (z :: c :: g) = .ok y (z :: c' :: g) ∧ Pn b c' ∧ Po i y) :
    ∃ ys c', mFz (mLc it gg mYes m ws) env (z :: cc :: g) = .ok (.fl ys) (z :: c' :: g) ∧ ys.length = ds.length ∧ (∀ i y, ys[i]? = some y → Po i y) ∧ Pn b c' := by
  have main : ∃ ys c', lcM (.st ds) gg mYes m (z :: c0 :: g).length ((Src.st ds).many (z :: c0 :: g) + 1) 0 (wipeE env ws) ((z :: c0 :: g) ++ [Cell.lst []]) = .ok (.ref (z :: c0 :: g).length) (z :: c' :: (g ++ [Cell.lst ys])) ∧ ys.length = ds.length ∧ (∀ i y, ys[i]? = some y → Po i y) ∧ Pn b c' := by
    refine lcM_inv (P := fun i h' => ∃ ys c', h' = z :: c' :: (g ++ [Cell.lst ys]) ∧ ys.length = i ∧ (∀ j y, ys[j]? = some y → Po j y) ∧ Pn (b + K * (ds.length - i)) c') (Rs := fun r => ∃ ys c', r = .ok (.ref (z :: c0 :: g).length) (z :: c' :: (g ++ [Cell.lst ys])) ∧ ys.length = ds.length ∧ (∀ i y, ys[i]? = some y → Po i y) ∧ Pn b c') ?_ ?_ ?_
    · rintro i d h' hd ⟨ys, c', rfl, l1, p1, n1⟩
      have hi' := (List.getElem?_eq_some_iff.mp hd).1
      obtain ⟨e1, g1, st⟩ := step i d hd
      have e0 : ds.length - i = (ds.length - (i + 1)) + 1 := by omega
      rw [e0, Nat.mul_succ, ← Nat.add_assoc] at n1
      obtain ⟨y, c2, e2, n2, p2⟩ := st _ c' (g ++ [Cell.lst ys]) n1
      refine ⟨e1, g1, ?_⟩
      show ∃ y h3 acc, m e1 _ = .ok y h3 ∧ _
      refine ⟨y, _, ys, e2, by simp, by omega, ys ++ [y], c2, by simp, by simp [l1], fun j z hz => ?_, n2⟩
      by_cases hj : j < ys.length
      · rw [List.getElem?_append_left hj] at hz
        exact p1 j z hz
      · have hj2 : j = ys.length := by
          have := (List.getElem?_eq_some_iff.mp hz).1
          simp at this
          omega
        subst hj2
        rw [List.getElem?_append_right (Nat.le_refl _), Nat.sub_self] at hz
        simp at hz
        subst hz
        rw [l1]
        exact p2
    · rintro h' ⟨ys, c', rfl, l1, p1, n1⟩
      rw [Nat.sub_self, Nat.mul_zero, Nat.add_zero] at n1
      exact ⟨ys, c', rfl, l1, p1, n1⟩
    · exact ⟨[], c0, by simp, rfl, by simp, by simpa using hp⟩
  obtain ⟨ys, c', e, l1, p1, n1⟩ := main
  refine ⟨ys, c', ?_, l1, p1, n1⟩
  rw [ap_mFz0, ap_mLc, hi]
  show fzR _ (lcM _ _ _ _ _ _ _ _ _) = _
  rw [e, fzR_at (xs := ys) (by simp) (by simp) (loL_of fun x hx => by
    obtain ⟨j, hj⟩ := List.mem_iff_getElem?.mp hx
    exact lo j x _ (p1 j x hj)) (by simp [lop b c' _ n1])]
  simp
/-- a word that is drawn sign by sign, joined -/
theorem word_draw {env : EV} {it : MI} {k : Nat} {e : ME} {z cc c0 : Cell} {g : IH} {t : List Nat} {n b : Nat} (nl : n ≤ 100000) (hi : it env (z :: cc :: g) = .ok (.st (intsFrom 0 n)) (z :: c0 :: g)) (hp : Pn (b + n) c0)
    (step : ∀ d b c g, Pn (b + 1) c → ∃ s c', e ((wipeE env [k]).set k (some d)) (z :: c :: g) = .ok (.str [s]) (z :: c' :: g) ∧ Pn b c' ∧ s ∈ t) :
    ∃ s c', mFz (mLc it (gSet k) mYes e [k]) env (z :: cc :: g) = .ok (.fl (sgD s)) (z :: c' :: g) ∧ s.length = n ∧ (∀ x ∈ s, x ∈ t) ∧ Pn b c' ∧ ∀ h : IH, fJoin (.str []) [.fl (sgD s)] h = .ok (.str s) h := by
  obtain ⟨ys, c4, e4, yl, yp, p4⟩ := lcF_penI (Pn := Pn) (b := b) (K := 1) (z := z) (cc := cc) (c0 := c0) (g := g) (ds := intsFrom 0 n) (env := env) (it := it) (gg := gSet k) (ws := [k]) (m := e) Pn_lo
    (fun _ y => ∃ k, k ∈ t ∧ y = .str [k]) hi (by simp; omega) (hp.mono (by simp)) (by rintro _ y k ⟨x, _, rfl⟩; rfl) (fun j d _ => ⟨_, rfl, fun b c g hb => by
      obtain ⟨s, c', e1, e2, e3⟩ := step d b c g hb
      exact ⟨_, c', e1, e2, s, e3, rfl⟩⟩)
  obtain ⟨s, rfl, sb⟩ := sgs_of (t := t) fun y hy => by
    obtain ⟨j, hj⟩ := List.mem_iff_getElem?.mp hy
    exact yp j y hj
  have sl : s.length = n := by simpa [sgD] using yl
  exact ⟨s, c4, e4, sl, sb, p4, fun h => join_sg (by omega)⟩
end NR

set_option Elab.async false
set_option linter.all false
set_option maxRecDepth 100000
set_option maxHeartbeats 4000000
/-! Numbers of words: plain part, number_of, word_at. -/
namespace NR
open PySem PySem.Spec PyProof.Rows L2
def ixS (t : List Nat) (c : Nat) : Nat := (fnd c t).getD 0
theorem ixS_get {t : List Nat} {c : Nat} (hc : c ∈ t) : t[ixS t c]? = some c := by
  unfold ixS
  cases e : fnd c t with
  | none => exact absurd hc (fnd_none.mp e)
  | some i => exact (fnd_some.mp e).1
theorem ixS_lt {t : List Nat} {c : Nat} (hc : c ∈ t) : ixS t c < t.length := (List.getElem?_eq_some_iff.mp (ixS_get hc)).1
theorem ixS_of {t : List Nat} (nd : t.Nodup) {i c : Nat} (e : t[i]? = some c) : ixS t c = i := by
  have h1 := ixS_get (List.mem_of_getElem? e)
  obtain ⟨l1, e1⟩ := List.getElem?_eq_some_iff.mp h1
  obtain ⟨l2, e2⟩ := List.getElem?_eq_some_iff.mp e
  exact (List.getElem?_inj l1 nd).mp (h1.trans e.symm)
theorem find_ix {t : List Nat} {c : Nat} (hc : c ∈ t) (h : IH) : fFind (.str t) [.str [c]] h = .ok (.int (ixS t c : Nat)) h := by
  show R.ok (D.int (match fnd c t with | some i => (i : Int) | none => -1)) h = _
  unfold ixS
  cases e : fnd c t with
  | none => exact absurd hc (fnd_none.mp e)
  | some i => rfl
/-! ### plain -/
def numF (t : List Nat) (f c : Nat) : Nat := f * t.length + 1 + ixS t c
def vluF (t : List Nat) (f c : Nat) : Nat := f * t.length + ixS t c
def numb (t w : List Nat) : Nat := w.foldl (numF t) 0
def vlu (t w : List Nat) : Nat := w.foldl (vluF t) 0
/-- how many words have fewer signs -/
def shS (N : Nat) : Nat → Nat
  | 0 => 0
  | k + 1 => shS N k + N ^ k
theorem shS_succ (N : Nat) : ∀ k, shS N (k + 1) = shS N k * N + 1
  | 0 => by simp [shS]
  | k + 1 => by
    have ih := shS_succ N k
    show shS N (k + 1) + N ^ (k + 1) = shS N (k + 1) * N + 1
    have e : shS N (k + 1) = shS N k + N ^ k := rfl
    have e2 : shS N (k + 1) * N = shS N k * N + N ^ k * N := by rw [e, Nat.add_mul]
    rw [e2, Nat.pow_succ]
    omega
theorem shS_mono {N : Nat} : ∀ {a b : Nat}, a ≤ b → shS N a ≤ shS N b
  | a, b, h => by
    induction h with
    | refl => exact Nat.le_refl _
    | step h ih => exact Nat.le_trans ih (by show _ ≤ shS N _ + _; omega)
theorem shS_pos {N k : Nat} (hk : 1 ≤ k) : 1 ≤ shS N k := by
  have : shS N 1 = 1 := by simp [shS]
  exact this ▸ shS_mono hk
theorem shS_lt {N : Nat} (hN : N ≤ 6) : ∀ k, shS N k + 1 ≤ 7 ^ k
  | 0 => by simp [shS]
  | k + 1 => by
    have ih := shS_lt hN k
    rw [shS_succ, Nat.pow_succ]
    have : shS N k * N ≤ shS N k * 6 := Nat.mul_le_mul_left _ hN
    omega
theorem numb_from (t : List Nat) : ∀ (w : List Nat) (k v : Nat), w.foldl (numF t) (shS t.length k + v) = shS t.length (k + w.length) + w.foldl (vluF t) v
  | [], k, v => rfl
  | c :: w, k, v => by
    rw [List.foldl_cons, List.foldl_cons, List.length_cons]
    have e : numF t (shS t.length k + v) c = shS t.length (k + 1) + vluF t v c := by
      unfold numF vluF
      rw [shS_succ, Nat.add_mul]
      omega
    rw [e, numb_from t w (k + 1)]
    congr 2
    omega
theorem numb_eq (t w : List Nat) : numb t w = shS t.length w.length + vlu t w := by
  have := numb_from t w 0 0
  simpa [numb, vlu, shS] using this
theorem vlu_from {t : List Nat} : ∀ {w : List Nat} (v : Nat), (∀ c ∈ w, c ∈ t) → w.foldl (vluF t) v + 1 ≤ (v + 1) * t.length ^ w.length
  | [], v, _ => by simp
  | c :: w, v, hw => by
    rw [List.foldl_cons, List.length_cons, Nat.pow_succ, Nat.mul_comm (t.length ^ _) t.length, ← Nat.mul_assoc]
    refine Nat.le_trans (vlu_from (vluF t v c) fun d hd => hw d (List.mem_cons_of_mem _ hd)) (Nat.mul_le_mul_right _ ?_)
    have := ixS_lt (hw c List.mem_cons_self)
    unfold vluF
    rw [Nat.add_mul]
    omega
theorem vlu_lt {t w : List Nat} (hw : ∀ c ∈ w, c ∈ t) : vlu t w < t.length ^ w.length := by
  have := vlu_from 0 hw
  unfold vlu
  omega
theorem numb_lt {t w : List Nat} (hw : ∀ c ∈ w, c ∈ t) : numb t w < shS t.length (w.length + 1) := by
  rw [numb_eq]
  have := vlu_lt hw
  show _ < shS t.length w.length + t.length ^ w.length
  omega
theorem numb_ge {t w : List Nat} : shS t.length w.length ≤ numb t w := by
  rw [numb_eq]
  omega
theorem numb_snoc {t w : List Nat} {c : Nat} : numb t (w ++ [c]) = numb t w * t.length + 1 + ixS t c := by
  unfold numb
  rw [List.foldl_append]
  rfl
theorem vlu_snoc {t w : List Nat} {c : Nat} : vlu t (w ++ [c]) = vlu t w * t.length + ixS t c := by
  unfold vlu
  rw [List.foldl_append]
  rfl
/-! ### small calls -/
section
variable {t : List Nat} {h : IH}
theorem dMul_n {i : Int} {n : Nat} (hn : n ≤ 1000) : dMul (.int i) (.int (n : Nat)) h = .ok (.int (i * (n : Nat))) h := by
  rw [dMul_int, if_pos]
  unfold cMul
  rw [Bool.or_eq_true]
  refine .inr ?_
  rw [Bool.and_eq_true]
  exact ⟨decide_eq_true (by omega), decide_eq_true (by omega)⟩
theorem dMod_n {i n : Nat} (h0 : 1 ≤ n) : dMod (.int (i : Nat)) (.int (n : Nat)) h = .ok (.int ((i % n : Nat) : Int)) h := by
  have c : cMod (i : Nat) (n : Nat) = true := by unfold cMod; exact decide_eq_true (by omega)
  exact if_pos c
theorem dDiv_n {i n : Nat} (h0 : 1 ≤ n) (h1 : n ≤ 1000) : dDiv (.int (i : Nat)) (.int (n : Nat)) h = .ok (.int ((i / n : Nat) : Int)) h := by
  have c : cDiv (i : Nat) (n : Nat) = true := by unfold cDiv; rw [Bool.and_eq_true]; exact ⟨decide_eq_true (by omega), decide_eq_true (by omega)⟩
  exact if_pos c
theorem is_number_int {i : Int} : callC 1 m_is_number [.int i] h = .ok (.bl true) h := callC_same rfl (by unfold m_is_number; simp)
theorem number_of_call (tg : Tgn t) {w : List Nat} (hw : ∀ c ∈ w, c ∈ t) (wl : w.length ≤ 1000) : callC 2 m_number_of [.str t, .str w] h = .ok (.int (numb t w : Nat)) h := by
  have l2 := tg.l2
  have bl : bLen [.str t] h = .ok (.int (t.length : Nat)) h := bLen_str (by omega)
  have go : ∀ (l : List Nat), (∀ c ∈ l, c ∈ t) → ∀ (f : Nat) (x : Option D), ∃ x', forL (gSet 3) b_number_of_1 (sgD l) [some (.str t), some (.str w), some (.int (f : Nat)), x] h = .nx [some (.str t), some (.str w), some (.int (l.foldl (numF t) f : Nat)), x'] h := by
    intro l
    induction l with
    | nil => exact fun _ f x => ⟨x, rfl⟩
    | cons c l ih =>
      intro hl f x
      obtain ⟨x', e⟩ := ih (fun d hd => hl d (List.mem_cons_of_mem _ hd)) (numF t f c) (some (.str [c]))
      refine ⟨x', ?_⟩
      show forL _ _ (.str [c] :: sgD l) _ _ = _
      rw [forL_cons rfl]
      have fi := find_ix (hl c List.mem_cons_self) h
      have dm := dMul_n (h := h) (i := (f : Nat)) (n := t.length) (by omega)
      have eb : b_number_of_1 ([some (.str t), some (.str w), some (.int (f : Nat)), x].set 3 (some (.str [c]))) h = .nx [some (.str t), some (.str w), some (.int (numF t f c : Nat)), some (.str [c])] h := by
        unfold b_number_of_1
        simp [-dMul_int, bl, fi, dm]
        unfold numF
        omega
      have eb' : b_number_of_1 [some (.str t), some (.str w), some (.int (f : Nat)), some (.str [c])] h = _ := eb
      simp only [List.set_cons_succ, List.set_cons_zero, eb']
      exact e
  obtain ⟨x', e⟩ := go w hw 0 none
  have e1 : msFor (iSeq (mVar 1)) (gSet 3) b_number_of_1 [some (.str t), some (.str w), some (.int (0 : Nat)), none] h = forL (gSet 3) b_number_of_1 (sgD w) [some (.str t), some (.str w), some (.int (0 : Nat)), none] h := by
    rw [ap_msFor, iSeq_str rfl (by omega), bindS_ok, forM_forL]
    rfl
  rw [e] at e1
  refine callC_same rfl ?_
  unfold m_number_of
  have e1' : msFor (iSeq (mVar 1)) (gSet 3) b_number_of_1 [some (.str t), some (.str w), some (.int 0), none] h = _ := e1
  simp [-ap_msFor, e1', numb]
/-! ### word_at -/
theorem word_loop (tg : Tgn t) {w : List Nat} (hw : ∀ c ∈ w, c ∈ t) (wl : w.length ≤ 60) :
    msWhile t_word_at_1 b_word_at_2 [some (.str t), some (.int (numb t w : Nat)), some (.str [])] h = .nx [some (.str t), some (.int 0), some (.str w)] h := by
  have l1 := tg.l1
  have l2 := tg.l2
  have bl : bLen [.str t] h = .ok (.int (t.length : Nat)) h := bLen_str (by omega)
  refine while_inv (P := fun m env h' => h' = h ∧ ∃ u v, env = [some (.str t), some (.int (numb t u : Nat)), some (.str v)] ∧ u ++ v = w ∧ m = u.length) (fun r => r = .nx [some (.str t), some (.int 0), some (.str w)] h) w.length _ _ ⟨rfl, w, [], rfl, by simp, rfl⟩ ?_
  rintro m env h' ⟨rfl, u, v, rfl, e, rfl⟩
  rcases List.eq_nil_or_concat u with rfl | ⟨u', c, rfl⟩
  · refine ⟨false, ?_, ?_⟩
    · unfold t_word_at_1
      simp [numb]
    · rw [if_neg (by decide)]
      have : v = w := e
      subst this
      rfl
  · have hc : c ∈ t := hw c (by rw [← e]; simp)
    have lt := ixS_lt hc
    have gt := ixS_get hc
    have en : numb t (u'.concat c) = numb t u' * t.length + 1 + ixS t c := by rw [List.concat_eq_append, numb_snoc]
    have el : u'.length + 1 + v.length = w.length := by rw [← e, List.concat_eq_append]; simp; omega
    generalize numb t (u'.concat c) = n at en
    have n1 : (n : Int) - 1 = ((n - 1 : Nat) : Int) := by omega
    have md := dMod_n (h := h') (i := n - 1) (n := t.length) (by omega)
    have dv := dDiv_n (h := h') (i := n - 1) (n := t.length) (by omega) (by omega)
    have em : (n - 1) % t.length = ixS t c := by
      rw [en]
      have : numb t u' * t.length + 1 + ixS t c - 1 = ixS t c + numb t u' * t.length := by omega
      rw [this, Nat.add_mul_mod_self_right]
      exact Nat.mod_eq_of_lt lt
    have ed : (n - 1) / t.length = numb t u' := by
      rw [en]
      have : numb t u' * t.length + 1 + ixS t c - 1 = ixS t c + numb t u' * t.length := by omega
      rw [this, Nat.add_mul_div_right _ _ (by omega), Nat.div_eq_of_lt lt, Nat.zero_add]
    rw [em] at md
    rw [ed] at dv
    have ix : dIx (.str t) (.int (ixS t c : Nat)) h' = .ok (.str [c]) h' := dIx_str (by omega) (by simpa using gt) (by omega)
    have bv : bLen [.str v] h' = .ok (.int (v.length : Nat)) h' := bLen_str (by omega)
    have v60 : ¬ (v.length : Int) = 60 := by omega
    have v60' : ¬ v.length = 60 := by omega
    have ad : dAdd (.str [c]) (.str v) h' = .ok (.str (c :: v)) h' := dAdd_str (by simp; omega)
    refine ⟨true, ?_, ?_⟩
    · unfold t_word_at_1
      have : (0 : Int) < (n : Nat) := by omega
      have : 0 < n := by omega
      simp [this]
    · rw [if_pos rfl]
      unfold b_word_at_2 c_LONGEST
      simp only [ap_msCons, ap_msIf, ap_msSet, ap_mFz_op, ap_mOp, ap_mTb, ap_mB, ap_mCons, ap_mNil, ap_mVar, ap_mC, ap_msNil, bind_ok, bindS_ok, then_nx, List.set_cons_zero, List.set_cons_succ, List.getElem?_cons_zero, List.getElem?_cons_succ, bl, bv, dSub_int, n1, md, dv, ix, ad, fz_str, Nx_nx]
      simp [v60, v60', bl, n1, md, dv, ix, ad]
      exact ⟨u'.length, by simp, u', c :: v, ⟨rfl, rfl⟩, by rw [← e, List.concat_eq_append]; simp, rfl⟩
theorem word_at_call (tg : Tgn t) {w : List Nat} (hw : ∀ c ∈ w, c ∈ t) (wl : w.length ≤ 60) : callC 2 m_word_at [.str t, .int (numb t w : Nat)] h = .ok (.str w) h := by
  have lp := word_loop (h := h) tg hw wl
  refine callC_same rfl ?_
  unfold m_word_at
  have n0 : ¬ ((numb t w : Nat) : Int) < 0 := by omega
  generalize numb t w = n at *
  simp [is_number_int, n0, lp]
theorem refuse_loop (tg : Tgn t) {n : Nat} (hn : shS t.length 61 ≤ n) :
    ∃ env, msWhile t_word_at_1 b_word_at_2 [some (.str t), some (.int (n : Nat)), some (.str [])] h = .ex "NoWord" none env h := by
  have l1 := tg.l1
  have l2 := tg.l2
  have bl : bLen [.str t] h = .ok (.int (t.length : Nat)) h := bLen_str (by omega)
  refine while_inv (P := fun m env h' => h' = h ∧ ∃ (n : Nat) (v : List Nat), env = [some (.str t), some (.int (n : Nat)), some (.str v)] ∧ shS t.length (61 - v.length) ≤ n ∧ v.length ≤ 60 ∧ m = 60 - v.length) (fun r => ∃ env, r = .ex "NoWord" none env h) 60 _ _ ⟨rfl, n, [], rfl, hn, by simp, rfl⟩ ?_
  rintro m env h' ⟨rfl, n, v, rfl, hn, vl, rfl⟩
  have np : 1 ≤ n := Nat.le_trans (shS_pos (by omega)) hn
  have bv : bLen [.str v] h' = .ok (.int (v.length : Nat)) h' := bLen_str (by omega)
  refine ⟨true, ?_, ?_⟩
  · unfold t_word_at_1
    have : (0 : Int) < (n : Nat) := by omega
    have : 0 < n := by omega
    simp [this]
  · rw [if_pos rfl]
    by_cases q : v.length = 60
    · unfold b_word_at_2 c_LONGEST
      have q' : (v.length : Int) = 60 := by omega
      simp [bv, q, q', msRaise]
    · have n1 : (n : Int) - 1 = ((n - 1 : Nat) : Int) := by omega
      have md := dMod_n (h := h') (i := n - 1) (n := t.length) (by omega)
      have dv := dDiv_n (h := h') (i := n - 1) (n := t.length) (by omega) (by omega)
      have lt := Nat.mod_lt (n - 1) (show 0 < t.length by omega)
      have ge : shS t.length (60 - v.length) ≤ (n - 1) / t.length := by
        rw [Nat.le_div_iff_mul_le (by omega)]
        have e : 61 - v.length = (60 - v.length) + 1 := by omega
        rw [e, shS_succ] at hn
        omega
      generalize (n - 1) % t.length = a at md lt
      generalize (n - 1) / t.length = n' at dv ge
      have ix : dIx (.str t) (.int (a : Nat)) h' = .ok (.str [t[a]]) h' := dIx_str (by omega) (by simp [lt]) (by omega)
      generalize t[a] = c at ix
      have v60 : ¬ (v.length : Int) = 60 := by omega
      have ad : dAdd (.str [c]) (.str v) h' = .ok (.str (c :: v)) h' := dAdd_str (by simp; omega)
      unfold b_word_at_2 c_LONGEST
      simp only [ap_msCons, ap_msIf, ap_msSet, ap_mFz_op, ap_mOp, ap_mTb, ap_mB, ap_mCons, ap_mNil, ap_mVar, ap_mC, ap_msNil, bind_ok, bindS_ok, then_nx, List.set_cons_zero, List.set_cons_succ, List.getElem?_cons_zero, List.getElem?_cons_succ, bl, bv, dSub_int, n1, md, dv, ix, ad, fz_str, Nx_nx]
      simp [v60, q, bl, n1, md, dv, ix, ad]
      refine ⟨60 - (v.length + 1), by omega, n', c :: v, ⟨rfl, rfl⟩, ?_, by simp; omega, rfl⟩
      have e : 61 - (c :: v).length = 60 - v.length := by rw [List.length_cons]; omega
      rw [e]
      exact ge
theorem word_at_many (tg : Tgn t) {n : Nat} (hn : shS t.length 61 ≤ n) : callC 2 m_word_at [.str t, .int (n : Nat)] h = .ex "NoWord" none h := by
  obtain ⟨env, lp⟩ := refuse_loop (h := h) tg hn
  refine callC_ex (g := []) rfl ?_
  unfold m_word_at
  have n0 : ¬ ((n : Nat) : Int) < 0 := by omega
  simp [is_number_int, n0, lp]
theorem word_at_neg {i : Int} (hi : i < 0) : callC 2 m_word_at [.str t, .int i] h = .ex "NoWord" none h := by
  refine callC_ex (g := []) rfl ?_
  unfold m_word_at
  simp [is_number_int, hi, msRaise]
/-- no number at all -/
def NoNum (x : D) : Prop := ∀ h : IH, isT "int" h x = some false ∨ (isT "int" h x = some true ∧ isT "bool" h x = some true)
theorem word_at_none {x : D} (hx : NoNum x) : callC 2 m_word_at [.str t, x] h = .ex "NoWord" none h := by
  have e : callC 1 m_is_number [x] h = .ok (.bl false) h := by
    refine callC_same rfl ?_
    unfold m_is_number
    rcases hx h with q | ⟨q, r⟩
    · simp [q]
    · simp [q, r]
  refine callC_ex (g := []) rfl ?_
  unfold m_word_at
  simp [e, msRaise]
end
end NR

set_option Elab.async false
set_option linter.all false
set_option maxRecDepth 100000
set_option maxHeartbeats 4000000
/-! The law's own counting: shorter, number, next word; what is refused. -/
namespace NR
open PySem PySem.Spec PyProof.Rows L2
section
variable {t : List Nat} {h : IH}
theorem law_shorter_call (tg : Tgn t) {k : Nat} (hk : k ≤ 1000) : callC 2 m__law_shorter [.str t, .int (k : Nat)] h = .ok (.tup [.int (shS t.length k : Nat), .int ((t.length ^ k : Nat) : Int)]) h := by
  have l2 := tg.l2
  have bl : bLen [.str t] h = .ok (.int (t.length : Nat)) h := bLen_str (by omega)
  have go : ∃ e2 h2, forM (.st (intsFrom 0 k)) (gSet 4) b__law_shorter_1 ((Src.st (intsFrom 0 k)).many h + 1) 0 [some (.str t), some (.int (k : Nat)), some (.int 0), some (.int 1), none] h = .nx e2 h2 ∧ h2 = h ∧ ∃ x, e2 = [some (.str t), some (.int (k : Nat)), some (.int (shS t.length (intsFrom 0 k).length : Nat)), some (.int ((t.length ^ (intsFrom 0 k).length : Nat) : Int)), x] := by
    refine for_nx (P := fun i env h' => h' = h ∧ ∃ x, env = [some (.str t), some (.int (k : Nat)), some (.int (shS t.length i : Nat)), some (.int ((t.length ^ i : Nat) : Int)), x]) ⟨rfl, none, by simp [shS]⟩ ?_
    rintro i d env h' hd ⟨rfl, x, rfl⟩
    have dm := dMul_n (h := h') (i := ((t.length ^ i : Nat) : Int)) (n := t.length) (by omega)
    have es : ((shS t.length i : Nat) : Int) + ((t.length ^ i : Nat) : Int) = ((shS t.length (i + 1) : Nat) : Int) := by
      show _ = ((shS t.length i + t.length ^ i : Nat) : Int)
      omega
    have ep : ((t.length ^ i : Nat) : Int) * (t.length : Nat) = ((t.length ^ (i + 1) : Nat) : Int) := by rw [Nat.pow_succ]; exact (Int.natCast_mul ..).symm
    rw [ep] at dm
    generalize t.length ^ (i + 1) = p2 at *
    generalize t.length ^ i = p1 at *
    generalize shS t.length (i + 1) = s2 at *
    generalize shS t.length i = s1 at *
    refine ⟨_, _, _, rfl, ?_, rfl, some d, rfl⟩
    unfold b__law_shorter_1
    simp only [ap_msCons, ap_msSet, ap_mFz_op, ap_mOp, ap_mB, ap_mCons, ap_mNil, ap_mVar, bind_ok, bindS_ok, then_nx, List.set_cons_zero, List.set_cons_succ, List.getElem?_cons_zero, List.getElem?_cons_succ, dAdd_int, es, bl, dm, fzR]
  obtain ⟨e2, h2, e, rfl, x, rfl⟩ := go
  rw [intsFrom_len] at e
  refine callC_same rfl ?_
  unfold m__law_shorter
  have e1 : msFor (iRange1 (mCons (mVar 1) mNil)) (gSet 4) b__law_shorter_1 [some (.str t), some (.int (k : Nat)), some (.int 0), some (.int 1), none] h2 = .nx [some (.str t), some (.int (k : Nat)), some (.int (shS t.length k : Nat)), some (.int ((t.length ^ k : Nat) : Int)), x] h2 := by
    rw [ap_msFor, iRange1_of (j := (k : Nat)) (k := k) (h' := h2) (by simp) rfl (by omega), bindS_ok]
    exact e
  generalize shS t.length k = s at *
  generalize t.length ^ k = p at *
  simp [-ap_msFor, e1]
theorem law_number_call (tg : Tgn t) {w : List Nat} (hw : ∀ c ∈ w, c ∈ t) (wl : w.length ≤ 1000) : callC 2 m__law_number [.str t, .str w] h = .ok (.int (numb t w : Nat)) h := by
  have l2 := tg.l2
  have bl : bLen [.str t] h = .ok (.int (t.length : Nat)) h := bLen_str (by omega)
  have bw : bLen [.str w] h = .ok (.int (w.length : Nat)) h := bLen_str (by omega)
  have sc := law_shorter_call (h := h) tg (k := w.length) (by omega)
  have go : ∀ (l : List Nat), (∀ c ∈ l, c ∈ t) → ∀ (f : Nat) (x : Option D), ∃ x', forL (gSet 3) b__law_number_1 (sgD l) [some (.str t), some (.str w), some (.int (f : Nat)), x] h = .nx [some (.str t), some (.str w), some (.int (l.foldl (vluF t) f : Nat)), x'] h := by
    intro l
    induction l with
    | nil => exact fun _ f x => ⟨x, rfl⟩
    | cons c l ih =>
      intro hl f x
      obtain ⟨x', e⟩ := ih (fun d hd => hl d (List.mem_cons_of_mem _ hd)) (vluF t f c) (some (.str [c]))
      refine ⟨x', ?_⟩
      show forL _ _ (.str [c] :: sgD l) _ _ = _
      rw [forL_cons rfl]
      have fi := find_ix (hl c List.mem_cons_self) h
      have dm := dMul_n (h := h) (i := (f : Nat)) (n := t.length) (by omega)
      have eb : b__law_number_1 ([some (.str t), some (.str w), some (.int (f : Nat)), x].set 3 (some (.str [c]))) h = .nx [some (.str t), some (.str w), some (.int (vluF t f c : Nat)), some (.str [c])] h := by
        unfold b__law_number_1
        simp [-dMul_int, bl, fi, dm]
        unfold vluF
        omega
      have eb' : b__law_number_1 [some (.str t), some (.str w), some (.int (f : Nat)), some (.str [c])] h = _ := eb
      simp only [List.set_cons_succ, List.set_cons_zero, eb']
      exact e
  obtain ⟨x', e⟩ := go w hw 0 none
  have e1 : msFor (iSeq (mVar 1)) (gSet 3) b__law_number_1 [some (.str t), some (.str w), some (.int 0), none] h = forL (gSet 3) b__law_number_1 (sgD w) [some (.str t), some (.str w), some (.int (0 : Nat)), none] h := by
    rw [ap_msFor, iSeq_str rfl (by omega), bindS_ok, forM_forL]
    rfl
  rw [e] at e1
  have en : ((shS t.length w.length : Nat) : Int) + ((w.foldl (vluF t) 0 : Nat) : Int) = ((numb t w : Nat) : Int) := by
    rw [numb_eq]
    unfold vlu
    omega
  generalize numb t w = n at *
  generalize List.foldl (vluF t) 0 w = v at *
  generalize shS t.length w.length = s at *
  generalize t.length ^ w.length = p at *
  refine callC_same rfl ?_
  have x0 : dIx (.tup [.int (s : Nat), .int (p : Nat)]) (.int 0) h = .ok (.int (s : Nat)) h := dIx_nat (n := 0) (xs := [.int (s : Nat), .int (p : Nat)]) rfl rfl
  unfold m__law_number
  simp [-ap_msFor, e1, bw, sc, x0, en, fzR]
/-! ### the next word -/
theorem rep_last {N i : Nat} {c : Nat} (hN : ixS t c + 1 = t.length) : ∀ (k v : Nat), (List.replicate k c).foldl (vluF t) v + 1 = (v + 1) * t.length ^ k
  | 0, v => by simp
  | k + 1, v => by
    rw [List.replicate_succ, List.foldl_cons, rep_last (N := N) (i := i) hN k, Nat.pow_succ, Nat.mul_comm (t.length ^ k), ← Nat.mul_assoc]
    congr 1
    unfold vluF
    rw [Nat.add_mul]
    omega
theorem rep_first {c : Nat} (h0 : ixS t c = 0) : ∀ (k v : Nat), (List.replicate k c).foldl (vluF t) v = v * t.length ^ k
  | 0, v => by simp
  | k + 1, v => by
    rw [List.replicate_succ, List.foldl_cons, rep_first h0 k, Nat.pow_succ, Nat.mul_comm (t.length ^ k), ← Nat.mul_assoc]
    congr 1
    unfold vluF
    omega
theorem dIx_neg1 {s : List Nat} {c : Nat} (e : s[s.length - 1]? = some c) (l : s.length ≤ 10000000) : dIx (.str s) (.int (-1)) h = .ok (.str [c]) h := by
  have hi := (List.getElem?_eq_some_iff.mp e).1
  show getD' _ _ _ = _
  unfold getD'
  dsimp only
  have : L2.ixN s.length (-1) = some (s.length - 1) := by
    unfold L2.ixN
    rw [if_neg (by omega), if_pos (by omega)]
    congr 1
    omega
  rw [this, Option.bind_some, e]
  dsimp only
  rw [if_pos l]
theorem dMul_rep {c k : Nat} (hk : k ≤ 1000) : dMul (.str [c]) (.int (k : Nat)) h = .ok (.str (List.replicate k c)) h := by
  have e : (List.replicate k [c]).flatten = List.replicate k c := by
    induction k with
    | zero => rfl
    | succ k ih => rw [List.replicate_succ, List.flatten_cons, ih (by omega), List.replicate_succ]; rfl
  show (if _ then R.ok (D.str (List.replicate ((k : Nat) : Int).toNat [c]).flatten) h else _) = _
  rw [if_pos ⟨by omega, by omega, by simp⟩, Int.toNat_natCast, e]
theorem law_next_call (tg : Tgn t) {w : List Nat} (hw : ∀ c ∈ w, c ∈ t) (wl : w.length ≤ 60) :
    ∃ w', callC 2 m__law_next [.str t, .str w] h = .ok (.str w') h ∧ (∀ c ∈ w', c ∈ t) ∧ numb t w' = numb t w + 1 ∧ w'.length ≤ w.length + 1 := by
  have l1 := tg.l1
  have l2 := tg.l2
  have bw : bLen [.str w] h = .ok (.int (w.length : Nat)) h := bLen_str (by omega)
  obtain ⟨c0, e0⟩ : ∃ c0, t[0]? = some c0 := ⟨_, List.getElem?_eq_getElem (by omega)⟩
  obtain ⟨cl, el⟩ : ∃ cl, t[t.length - 1]? = some cl := ⟨_, List.getElem?_eq_getElem (by omega)⟩
  have h0 : ixS t c0 = 0 := ixS_of tg.nd e0
  have hl : ixS t cl + 1 = t.length := by rw [ixS_of tg.nd el]; omega
  have m0 : c0 ∈ t := List.mem_of_getElem? e0
  have ml : cl ∈ t := List.mem_of_getElem? el
  have x0 : dIx (.str t) (.int 0) h = .ok (.str [c0]) h := dIx_str (by omega) (by simpa using e0) (by omega)
  have xl : dIx (.str t) (.int (-1)) h = .ok (.str [cl]) h := by
    have := dIx_neg1 (h := h) el (by omega)
    exact this
  have lp : ∃ k env, msWhile t__law_next_1 b__law_next_2 [some (.str t), some (.str w), some (.int (w.length : Nat)), none] h = .nx [some (.str t), some (.str w), some (.int (k : Nat)), none] h ∧ k ≤ w.length ∧ w = w.take k ++ List.replicate (w.length - k) cl ∧ (k = 0 ∨ ∃ c, w[k - 1]? = some c ∧ c ≠ cl) ∧ env = k := by
    obtain ⟨m, e2, h2, e, ⟨rfl, k, rfl, k1, k2, rfl⟩, fin⟩ := while_nx (c := t__law_next_1) (s := b__law_next_2) (P := fun m env h' => h' = h ∧ ∃ k : Nat, env = [some (.str t), some (.str w), some (.int (k : Nat)), none] ∧ k ≤ w.length ∧ w = w.take k ++ List.replicate (w.length - k) cl ∧ m = k) w.length [some (.str t), some (.str w), some (.int (w.length : Nat)), none] h ⟨rfl, w.length, rfl, Nat.le_refl _, by simp, rfl⟩ (by
      rintro m env h' ⟨rfl, k, rfl, k1, k2, rfl⟩
      by_cases q : m = 0
      · refine .inr ?_
        subst q
        unfold t__law_next_1
        simp
      · obtain ⟨c, ec⟩ : ∃ c, w[m - 1]? = some c := ⟨_, List.getElem?_eq_getElem (by omega)⟩
        have xc : dIx (.str w) (.int ((m : Nat) - 1)) h' = .ok (.str [c]) h' := dIx_str (by omega) (by rw [show ((m : Int) - 1).toNat = m - 1 by omega]; exact ec) (by omega)
        have qp : 0 < m := by omega
        by_cases qc : c = cl
        · subst qc
          refine .inl ⟨_, _, ?_, ?_, m - 1, by omega, rfl, m - 1, rfl, by omega, ?_, rfl⟩
          · unfold t__law_next_1
            simp [qp, xc, xl]
          · unfold b__law_next_2
            simp
            omega
          · have e1 : w.take m = w.take (m - 1) ++ [c] := by
              have := List.take_succ (l := w) (i := m - 1)
              rw [show m - 1 + 1 = m by omega, ec] at this
              exact this
            have e3 : w.length - (m - 1) = (w.length - m) + 1 := by omega
            rw [e3, List.replicate_succ]
            rw [e1, List.append_assoc] at k2
            exact k2
        · refine .inr ?_
          unfold t__law_next_1
          simp [qp, xc, xl, qc])
    refine ⟨m, m, e, k1, k2, ?_, rfl⟩
    by_cases q : m = 0
    · exact .inl q
    · refine .inr ?_
      obtain ⟨c, ec⟩ : ∃ c, w[m - 1]? = some c := ⟨_, List.getElem?_eq_getElem (by omega)⟩
      refine ⟨c, ec, fun z => ?_⟩
      subst z
      have xc : dIx (.str w) (.int ((m : Nat) - 1)) h2 = .ok (.str [c]) h2 := dIx_str (by omega) (by rw [show ((m : Int) - 1).toNat = m - 1 by omega]; exact ec) (by omega)
      have qp : 0 < m := by omega
      unfold t__law_next_1 at fin
      simp [qp, xc, xl] at fin
  obtain ⟨k, _, lp, k1, k2, k3, _⟩ := lp
  rcases k3 with rfl | ⟨c, ec, nc⟩
  · -- all are the last sign
    have wr : w = List.replicate w.length cl := by simpa using k2
    refine ⟨List.replicate (w.length + 1) c0, callC_same rfl ?_, fun c hc => by rw [List.eq_of_mem_replicate hc]; exact m0, ?_, by simp⟩
    · have dm := dMul_rep (h := h) (c := c0) (k := w.length + 1) (by omega)
      have dm' : dMul (.str [c0]) (.int ((w.length : Nat) + 1)) h = .ok (.str (List.replicate (w.length + 1) c0)) h := dm
      unfold m__law_next
      generalize List.replicate (w.length + 1) c0 = R at *
      simp [bw, lp, x0, dm']
    · rw [numb_eq, numb_eq]
      have e1 : vlu t (List.replicate (w.length + 1) c0) = 0 := by unfold vlu; rw [rep_first h0]; simp
      have e2 : vlu t w + 1 = t.length ^ w.length := by
        conv => lhs; rw [wr]
        unfold vlu
        rw [rep_last (N := 0) (i := 0) hl]
        simp
      rw [e1, List.length_replicate]
      show shS t.length w.length + t.length ^ w.length + 0 = _
      omega
  · have kp : 0 < k := by
      rcases Nat.eq_zero_or_pos k with rfl | z
      · exfalso
        have wr : w = List.replicate w.length cl := by simpa using k2
        have := List.mem_of_getElem? ec
        rw [wr] at this
        exact nc (List.eq_of_mem_replicate this)
      · exact z
    have hc : c ∈ t := hw c (List.mem_of_getElem? ec)
    have lt := ixS_lt hc
    have gt := ixS_get hc
    have ne : ixS t c + 1 ≠ t.length := fun z => by
      have : ixS t c = t.length - 1 := by omega
      rw [this, el] at gt
      exact nc (Option.some.inj gt).symm
    obtain ⟨d, ed⟩ : ∃ d, t[ixS t c + 1]? = some d := ⟨_, List.getElem?_eq_getElem (by omega)⟩
    have md : d ∈ t := List.mem_of_getElem? ed
    have hd : ixS t d = ixS t c + 1 := ixS_of tg.nd ed
    have e1 : w.take k = w.take (k - 1) ++ [c] := by
      have := List.take_succ (l := w) (i := k - 1)
      rw [show k - 1 + 1 = k by omega, ec] at this
      exact this
    refine ⟨w.take (k - 1) ++ [d] ++ List.replicate (w.length - k) c0, callC_same rfl ?_, ?_, ?_, ?_⟩
    · have dm := dMul_rep (h := h) (c := c0) (k := w.length - k) (by omega)
      have dm' : dMul (.str [c0]) (.int ((w.length : Nat) - (k : Nat))) h = .ok (.str (List.replicate (w.length - k) c0)) h := by
        rw [show ((w.length : Nat) : Int) - (k : Nat) = ((w.length - k : Nat) : Int) by omega]
        exact dm
      have xc : dIx (.str w) (.int ((k : Nat) - 1)) h = .ok (.str [c]) h := dIx_str (by omega) (by rw [show ((k : Int) - 1).toNat = k - 1 by omega]; exact ec) (by omega)
      have fi := find_ix hc h
      have xd : dIx (.str t) (.int ((ixS t c : Nat) + 1)) h = .ok (.str [d]) h := dIx_str (by omega) (by rw [show ((ixS t c : Nat) + 1 : Int).toNat = ixS t c + 1 by omega]; exact ed) (by omega)
      have st : sliceD (.str w) none (some ((k : Nat) - 1)) h = .ok (.str (w.take (k - 1))) h := by
        rw [sliceD_str (by omega), cutN_to (by omega), show ((k : Int) - 1).toNat = k - 1 by omega]
      have tl := List.length_take_le (k - 1) w
      have a1 : dAdd (.str (w.take (k - 1))) (.str [d]) h = .ok (.str (w.take (k - 1) ++ [d])) h := dAdd_str (by simp; omega)
      have a2 : dAdd (.str (w.take (k - 1) ++ [d])) (.str (List.replicate (w.length - k) c0)) h = .ok (.str (w.take (k - 1) ++ [d] ++ List.replicate (w.length - k) c0)) h := dAdd_str (by simp; omega)
      have k0 : ¬ (k : Int) = 0 := by omega
      have k0' : ¬ k = 0 := by omega
      generalize w.take (k - 1) ++ [d] ++ List.replicate (w.length - k) c0 = R3 at *
      generalize w.take (k - 1) ++ [d] = R2 at *
      generalize w.take (k - 1) = R1 at *
      generalize List.replicate (w.length - k) c0 = R0 at *
      unfold m__law_next
      simp [bw, lp, k0, k0', xc, fi, xd, st, a1, x0, dm', a2]
    · intro x hx
      rcases List.mem_append.mp hx with hx | hx
      · rcases List.mem_append.mp hx with hx | hx
        · exact hw x (List.mem_of_mem_take hx)
        · rw [List.mem_singleton] at hx
          subst hx
          exact md
      · rw [List.eq_of_mem_replicate hx]
        exact m0
    · have tl : (w.take (k - 1)).length = k - 1 := by rw [List.length_take]; omega
      have ln : (w.take (k - 1) ++ [d] ++ List.replicate (w.length - k) c0).length = w.length := by simp; omega
      rw [numb_eq, numb_eq, ln]
      have v1 : vlu t (w.take (k - 1) ++ [d] ++ List.replicate (w.length - k) c0) = (vlu t (w.take (k - 1)) * t.length + (ixS t c + 1)) * t.length ^ (w.length - k) := by
        conv => lhs; unfold vlu
        rw [List.foldl_append, rep_first h0]
        congr 1
        have := vlu_snoc (t := t) (w := w.take (k - 1)) (c := d)
        rw [hd] at this
        exact this
      have v2 : vlu t w + 1 = (vlu t (w.take (k - 1)) * t.length + ixS t c + 1) * t.length ^ (w.length - k) := by
        conv => lhs; rw [k2]
        conv => lhs; unfold vlu
        rw [List.foldl_append, rep_last (N := 0) (i := 0) hl]
        congr 2
        have := vlu_snoc (t := t) (w := w.take (k - 1)) (c := c)
        rw [← e1] at this
        exact this
      rw [v1, ← Nat.add_assoc, ← v2]
      omega
    · have tl := List.length_take_le (k - 1) w
      rw [List.length_append, List.length_append, List.length_replicate, List.length_take]
      simp
      omega
/-! ### alike, refused -/
theorem same_int {i : Int} : callC 2 (m__law_same 24) [.int i, .int i] h = .ok (.bl true) h := by
  rw [show (24 : Nat) = 23 + 1 from rfl, m__law_same_succ]
  refine callC_same rfl ?_
  unfold B__law_same
  simp
theorem same_str {s : List Nat} : callC 2 (m__law_same 24) [.str s, .str s] h = .ok (.bl true) h := by
  rw [show (24 : Nat) = 23 + 1 from rfl, m__law_same_succ]
  refine callC_same rfl ?_
  unfold B__law_same
  simp
theorem others_call {a : Nat} : callC 1 (m__law_others "NoWord" a) [.exc a] h = .ok (.bl false) h := by
  refine callC_same rfl ?_
  have g1 : iT.get "NoWord" "ValueError" = some true := by decide +kernel
  have g2 : mIsET.allM' (iT.get "NoWord") ["Closed", "NoBook", "NoLine", "NoModes", "NoPlace", "NoQuote", "NoShape", "NoTable"] = some [false, false, false, false, false, false, false, false] := by decide +kernel
  have g3 : mIsET.allM' (iT.get "NoWord") ["NoText", "Stopped", "TooHeavy", "TooMany", "Unlike"] = some [false, false, false, false, false] := by decide +kernel
  unfold m__law_others
  simp [mIsE, mIsET, g1, g2, g3]
theorem refused_call {x : D} (hx : callC 2 m_word_at [.str t, x] h = .ex "NoWord" none h) : callC 2 m__law_refused [.str t, x] h = .ok (.bl true) h := by
  refine callC_same rfl ?_
  have body : b__law_refused_1 [some (.str t), some x, some (.bl false), none] h = .ex "NoWord" none [some (.str t), some x, some (.bl false), none] h := by
    unfold b__law_refused_1
    simp [hx]
  have g0 : hT.get "NoWord" "ReachError" = some true := by decide +kernel
  have g1 : iT.get "NoWord" "NoWord" = some true := by decide +kernel
  have tr : msTryAs hT "ReachError" 3 b__law_refused_1 s__law_refused_2 [some (.str t), some x, some (.bl false), none] h = .nx [some (.str t), some x, some (.bl true), none] h := by
    unfold msTryAs
    rw [body]
    dsimp only
    rw [g0]
    dsimp only
    refine anyA_eq fun k => ?_
    have oc := others_call (h := h) (a := k)
    unfold s__law_refused_2
    simp [mIsE, g1, RS.unset, oc]
  unfold m__law_refused
  simp [tr]
end
end NR

set_option Elab.async false
set_option linter.all false
set_option maxRecDepth 100000
set_option maxHeartbeats 4000000
namespace NR
open PySem PySem.Spec PyProof.Rows L2
/-! steps of a body, one by one -/
section
variable {s1 s2 : MS} {env env2 : EV} {h h2 h' : IH} {r : R D} {d : D} {it : MI} {gg : MG} {b : MS} {ds : List D} {q : RS}
theorem stN (e : s1 env h = .nx env2 h2) (k : (s2 env2 h2).fin = r) : (msCons s1 s2 env h).fin = r := by rw [ap_msCons, e, then_nx]; exact k
theorem stS (e : s1 env h = .nx env2 h2) (k : s2 env2 h2 = q) : msCons s1 s2 env h = q := by rw [ap_msCons, e, then_nx]; exact k
theorem stX (e : s1 env h = .nx env2 h2) (k : ∃ h', (s2 env2 h2).fin = .ok d h') : ∃ h', (msCons s1 s2 env h).fin = .ok d h' := by rw [ap_msCons, e, then_nx]; exact k
theorem stR (e : s1 env h = .rt d h') : (msCons s1 s2 env h).fin = .ok d h' := by rw [ap_msCons, e, then_rt]; rfl
theorem stRS (e : s1 env h = .rt d h') : msCons s1 s2 env h = .rt d h' := by rw [ap_msCons, e, then_rt]
theorem for_st (e : it env h = .ok (.st ds) h2) : msFor it gg b env h = forL gg b ds env h2 := by rw [ap_msFor, e, bindS_ok, forM_forL]
end
theorem fzD_penG {xs : List D} {z c c' : Cell} {g r : IH} (lo : ∀ k, D.loL k xs = true) (lc : ∀ k, Cell.lo k c' = true) : fzD (z :: c :: g) (z :: c' :: (g ++ r)) xs = .ok (.fl xs) (z :: c' :: g) := by
  unfold fzD newL
  rw [fzR_at (n := (z :: c' :: (g ++ r)).length) (xs := xs) (by simp) (by simp) (lo _) (by simp [lc])]
  simp
/-- drawing steps that leave cells behind the comprehension's list -/
theorem lcF_penG {env : EV} {m : ME} {it : MI} {gg : MG} {ws : List Nat} {ds : List D} {z cc c0 : Cell} {g : IH} {Pn : Nat → Cell → Prop} {b K : Nat} (lop : ∀ b c k, Pn b c → Cell.lo k c = true) (Po : Nat → D → Prop) (hi : it env (z :: cc :: g) = .ok (.st ds) (z :: c0 :: g)) (hl : ds.length ≤ 9000000)
    (hp : Pn (b + K * ds.length) c0) (lo : ∀ i y k, Po i y → D.lo k y = true)
    (step : ∀ i d, ds[i]? = some d → ∃ e1, gg d (wipeE env ws) = some e1 ∧ ∀ b c g, Pn (b + K) c → ∃ y c' r, m e1 (z :: c :: g) = .ok y (z :: c' :: (g ++ r)) ∧ Pn b c' ∧ Po i y) :
    ∃ ys c', mFz (mLc it gg mYes m ws) env (z :: cc :: g) = .ok (.fl ys) (z :: c' :: g) ∧ ys.length = ds.length ∧ (∀ i y, ys[i]? = some y → Po i y) ∧ Pn b c' := by
  have main : ∃ ys c' r, lcM (.st ds) gg mYes m (z :: c0 :: g).length ((Src.st ds).many (z :: c0 :: g) + 1) 0 (wipeE env ws) ((z :: c0 :: g) ++ [Cell.lst []]) = .ok (.ref (z :: c0 :: g).length) (z :: c' :: (g ++ Cell.lst ys :: r)) ∧ ys.length = ds.length ∧ (∀ i y, ys[i]? = some y → Po i y) ∧ Pn b c' := by
    refine lcM_inv (P := fun i h' => ∃ ys c' r, h' = z :: c' :: (g ++ Cell.lst ys :: r) ∧ ys.length = i ∧ (∀ j y, ys[j]? = some y → Po j y) ∧ Pn (b + K * (ds.length - i)) c') (Rs := fun o => ∃ ys c' r, o = .ok (.ref (z :: c0 :: g).length) (z :: c' :: (g ++ Cell.lst ys :: r)) ∧ ys.length = ds.length ∧ (∀ i y, ys[i]? = some y → Po i y) ∧ Pn b c') ?_ ?_ ?_
    · rintro i d h' hd ⟨ys, c', r, rfl, l1, p1, n1⟩
      have hi' := (List.getElem?_eq_some_iff.mp hd).1
      obtain ⟨e1, g1, st⟩ := step i d hd
      have e0 : ds.length - i = (ds.length - (i + 1)) + 1 := by omega
      rw [e0, Nat.mul_succ, ← Nat.add_assoc] at n1
      obtain ⟨y, c2, r2, e2, n2, p2⟩ := st _ c' (g ++ Cell.lst ys :: r) n1
      refine ⟨e1, g1, ?_⟩
      show ∃ y h3 acc, m e1 _ = .ok y h3 ∧ _
      refine ⟨y, _, ys, e2, by simp, by omega, ys ++ [y], c2, r ++ r2, by simp, by simp [l1], fun j z hz => ?_, n2⟩
      by_cases hj : j < ys.length
      · rw [List.getElem?_append_left hj] at hz
        exact p1 j z hz
      · have hj2 : j = ys.length := by
          have := (List.getElem?_eq_some_iff.mp hz).1
          simp at this
          omega
        subst hj2
        rw [List.getElem?_append_right (Nat.le_refl _), Nat.sub_self] at hz
        simp at hz
        subst hz
        rw [l1]
        exact p2
    · rintro h' ⟨ys, c', r, rfl, l1, p1, n1⟩
      rw [Nat.sub_self, Nat.mul_zero, Nat.add_zero] at n1
      exact ⟨ys, c', r, rfl, l1, p1, n1⟩
    · exact ⟨[], c0, [], by simp, rfl, by simp, by simpa using hp⟩
  obtain ⟨ys, c', r, e, l1, p1, n1⟩ := main
  refine ⟨ys, c', ?_, l1, p1, n1⟩
  rw [ap_mFz0, ap_mLc, hi]
  show fzR _ (lcM _ _ _ _ _ _ _ _ _) = _
  rw [e, fzR_at (xs := ys) (by simp) (by simp) (loL_of fun x hx => by
    obtain ⟨j, hj⟩ := List.mem_iff_getElem?.mp hx
    exact lo j x _ (p1 j x hj)) (by simp [lop b c' _ n1])]
  simp
theorem bMax1T_tup {h : IH} {ns : List Int} (l : 0 < ns.length) : bMax1T [.tup (ns.map D.int)] h = .ok (.int (imax ns)) h := by
  show (match (some (ns.map D.int)).bind (allM D.int?) with | some ns => if 0 < ns.length then R.ok (D.int (imax ns)) h else .no | none => .no) = _
  simp [l]
theorem bMax1T_fl {h : IH} {ns : List Int} (l : 0 < ns.length) : bMax1T [.fl (ns.map D.int)] h = .ok (.int (imax ns)) h := by
  show (match (some (ns.map D.int)).bind (allM D.int?) with | some ns => if 0 < ns.length then R.ok (D.int (imax ns)) h else .no | none => .no) = _
  simp [l]
theorem bMin1T_fl {h : IH} {ns : List Int} (l : 0 < ns.length) : bMin1T [.fl (ns.map D.int)] h = .ok (.int (imin ns)) h := by
  show (match (some (ns.map D.int)).bind (allM D.int?) with | some ns => if 0 < ns.length then R.ok (D.int (imin ns)) h else .no | none => .no) = _
  simp [l]
@[simp] theorem ap_mIsT {Ts : List String} {m : ME} {env : EV} {h : IH} : mIsT Ts m env h = (m env h).bind fun x h1 => match isTs h1 x Ts with | some b => .ok (.bl b) h1 | none => .no := rfl
@[simp] theorem ap_mChain3 {f g f3 : D → D → IH → R D} {a b c d : ME} {env : EV} {h : IH} : mChain3 f g f3 a b c d env h = (a env h).bind fun x h1 => (b env h1).bind fun y h2 => (f x y h2).bind fun z h3 => match z with
  | .bl true => (c env h3).bind fun w h4 => (g y w h4).bind fun u h5 => match u with
    | .bl true => (d env h5).bind fun t h6 => f3 w t h6
    | .bl false => .ok (.bl false) h5
    | _ => .no
  | .bl false => .ok (.bl false) h3
  | _ => .no := rfl
@[simp] theorem ap_iRevR1 {ta : MA} {env : EV} {h : IH} : iRevR1 ta env h = (ta env h).bind fun xs h1 => match xs with
  | [.int j] => if -10000000 ≤ j ∧ j ≤ 10000000 then .ok (.st (intsDown (j - 1) j.toNat)) h1 else .no
  | _ => .no := rfl
/-! what is locked within -/
/-- nothing within is to be locked -/
def Fz (m : Nat) (d : D) : Prop := ∀ (b k : Nat) (h : IH), m ≤ k → dzD b k h d = some (d, h)
theorem Fz.mono {m n : Nat} {d : D} (f : Fz m d) (l : m ≤ n) : Fz n d := fun b k h q => f b k h (by omega)
theorem fz1 {m : Nat} {d : D} (l : 1 ≤ m) (e : ∀ b k h, dzD b (k + 1) h d = some (d, h)) : Fz m d := fun b k h q => by
  cases k with
  | zero => omega
  | succ k => exact e b k h
theorem Fz_int {i : Int} : Fz 1 (.int i) := fz1 (by omega) fun _ _ _ => by simp [dzD]
theorem Fz_nD {i : Nat} : Fz 1 (nD i) := Fz_int
theorem Fz_str {i : List Nat} : Fz 1 (.str i) := fz1 (by omega) fun _ _ _ => by simp [dzD]
theorem Fz_bl {i : Bool} : Fz 1 (.bl i) := fz1 (by omega) fun _ _ _ => by simp [dzD]
theorem Fz_non : Fz 1 .non := fz1 (by omega) fun _ _ _ => by simp [dzD]
theorem Fz_fl {l : List D} : Fz 1 (.fl l) := fz1 (by omega) fun _ _ _ => by simp [dzD]
theorem dzL_fz {m : Nat} {b : Nat} : ∀ {l : List D} {k : Nat} {h : IH}, (∀ d ∈ l, Fz m d) → m + l.length + 1 ≤ k → dzL b k h l = some (l, h)
  | [], 0, h, _, q => by omega
  | [], k + 1, h, _, q => by unfold dzL; rfl
  | d :: l, 0, h, f, q => by omega
  | d :: l, k + 1, h, f, q => by
    unfold dzL
    rw [List.length_cons] at q
    rw [f d List.mem_cons_self b k h (by omega)]
    dsimp only
    rw [dzL_fz (fun x hx => f x (List.mem_cons_of_mem _ hx)) (by omega)]
theorem Fz_tup {m : Nat} {l : List D} (f : ∀ d ∈ l, Fz m d) : Fz (m + l.length + 2) (.tup l) := fun b k h q => by
  cases k with
  | zero => omega
  | succ k =>
    unfold dzD
    rw [dzL_fz f (by omega)]
/-- a new list -/
theorem dzD_new {m b k n : Nat} {h : IH} {xs : List D} (bn : b ≤ n) (e : h[n]? = some (.lst xs)) (f : ∀ d ∈ xs, Fz m d) (q : m + xs.length + 2 ≤ k) : dzD b k h (.ref n) = some (.fl xs, h.set n (.frz xs)) := by
  cases k with
  | zero => omega
  | succ k =>
    unfold dzD
    rw [if_pos bn, e]
    dsimp only
    rw [dzL_fz f (by omega)]
theorem dzR_of {h h' h2 : IH} {d d' : D} (e : dzD h.length 1000 h' d = some (d', h2)) (lo : D.lo h.length d' = true) (ok : okB h.length h h2) : dzR h (.ok d h') = .ok d' (h2.take h.length) := by
  unfold dzR
  dsimp only
  rw [e]
  dsimp only
  rw [if_pos ⟨lo, ok⟩]
/-- a tuple whose first item is a new list -/
theorem dz_tup1 {m : Nat} {h : IH} {xs l : List D} (f : ∀ d ∈ xs, Fz m d) (g : ∀ d ∈ l, Fz m d) (q : m + xs.length + l.length ≤ 900) (lo1 : D.loL h.length xs = true) (lo2 : D.loL h.length l = true) :
    dzR h (.ok (.tup (.ref h.length :: l)) (h ++ [.lst xs])) = .ok (.tup (.fl xs :: l)) h := by
  rw [dzR_of (d' := .tup (.fl xs :: l)) (h2 := h ++ [.frz xs]) ?_ (by simp [lo1, lo2]) okB_self]
  · simp
  · unfold dzD
    have e : dzL h.length 999 (h ++ [.lst xs]) (.ref h.length :: l) = some (.fl xs :: l, h ++ [.frz xs]) := by
      unfold dzL
      rw [dzD_new (k := 998) (Nat.le_refl _) get_app0 f (by omega), set_app0]
      dsimp only
      rw [dzL_fz (k := 998) g (by omega)]
      rfl
    rw [e]
theorem ap_mDz {m : ME} {env : EV} {h : IH} : mDz m env h = dzR h (m env h) := rfl
theorem dz_bind {A : Type} {h : IH} {r : R A} {k : A → IH → R D} : dzR h (r.bind k) = r.bind fun a h1 => dzR h (k a h1) := by cases r <;> rfl
@[simp] theorem ap_mDz_call {n : Nat} {fm : MF} {ta : MA} {env : EV} {h : IH} : mDz (mCall n fm ta) env h = (ta env h).bind fun ds h1 => dzR h (callC n fm ds h1) := by rw [ap_mDz, ap_mCall, dz_bind]
@[simp] theorem dz_ex {h h' : IH} {c : Str} {d : XF} : dzR h (.ex c d h') = .ex c d h' := rfl
@[simp] theorem dIs_tup_non {neg : Bool} {l : List D} {h : IH} : dIsN neg (.tup l) .non h = .ok (.bl neg) h := rfl
@[simp] theorem dIs_fl_non {neg : Bool} {l : List D} {h : IH} : dIsN neg (.fl l) .non h = .ok (.bl neg) h := rfl
@[simp] theorem dIs_str_non {neg : Bool} {l : List Nat} {h : IH} : dIsN neg (.str l) .non h = .ok (.bl neg) h := rfl
@[simp] theorem dIs_int_non {neg : Bool} {l : Int} {h : IH} : dIsN neg (.int l) .non h = .ok (.bl neg) h := rfl
@[simp] theorem dIs_bl_non {neg : Bool} {l : Bool} {h : IH} : dIsN neg (.bl l) .non h = .ok (.bl neg) h := rfl
@[simp] theorem dIs_ref_non {neg : Bool} {l : Nat} {h : IH} : dIsN neg (.ref l) .non h = .ok (.bl neg) h := rfl
theorem dIx_last {h : IH} {o : D} {xs : List D} {d : D} (hs : seqOf h o = some xs) (e : xs[xs.length - 1]? = some d) : dIx o (.int (-1)) h = .ok d h := by
  have hi := (List.getElem?_eq_some_iff.mp e).1
  show getD' _ _ _ = _
  unfold getD'
  cases o with
  | str s => simp [seqOf] at hs
  | _ =>
    dsimp only
    rw [hs]
    have : ixN xs.length (-1) = some (xs.length - 1) := by
      unfold ixN
      rw [if_neg (by omega), if_pos (by omega)]
      congr 1
      omega
    dsimp only [Option.bind]
    rw [this]
    dsimp only [Option.bind]
    rw [e]
/-! sources that are read of the heap -/
theorem forM_src {src : Src} {ds : List D} {g : MG} {b : MS} (P : IH → Prop) (hs : ∀ h, P h → src.ok h = true ∧ ∀ i, src.get h i = ds[i]?) (keep : ∀ e1 h, P h → ∀ e2 h2, (b e1 h = .nx e2 h2 ∨ b e1 h = .ct e2 h2) → P h2) :
    ∀ (m i : Nat) (env : EV) (h : IH), P h → ds.length < m + i → i ≤ ds.length → forM src g b m i env h = forL g b (ds.drop i) env h
  | 0, i, env, h, _, l, l2 => by omega
  | m + 1, i, env, h, hp, l, l2 => by
    obtain ⟨o, ge⟩ := hs h hp
    unfold forM
    rw [if_pos o, ge i]
    cases hd : ds[i]? with
    | none =>
      have := List.getElem?_eq_none_iff.mp hd
      rw [List.drop_eq_nil_of_le this]
      rfl
    | some d =>
      have hi := (List.getElem?_eq_some_iff.mp hd).1
      have ed : ds[i] = d := (List.getElem?_eq_some_iff.mp hd).2
      rw [List.drop_eq_getElem_cons hi, ed]
      dsimp only
      cases hg : g d env with
      | none => unfold forL; rw [hg]
      | some e1 =>
        dsimp only
        rw [forL_cons hg]
        have kp := keep e1 h hp
        cases hb : b e1 h with
        | nx e2 h2 => exact forM_src P hs keep m (i + 1) e2 h2 (kp e2 h2 (.inl hb)) (by omega) hi
        | ct e2 h2 => exact forM_src P hs keep m (i + 1) e2 h2 (kp e2 h2 (.inr hb)) (by omega) hi
        | bk e2 h2 => rfl
        | rt d2 h2 => rfl
        | ex c d2 e2 h2 => rfl
        | no => rfl
/-- a for whose turns leave the heap as it is -/
theorem for_src {it : MI} {gg : MG} {b : MS} {env : EV} {h h2 : IH} {src : Src} {ds : List D} (e : it env h = .ok src h2) (o : src.ok h2 = true) (ge : ∀ i, src.get h2 i = ds[i]?) (mn : src.many h2 = ds.length) (keep : ∀ e1 e2 h3, (b e1 h2 = .nx e2 h3 ∨ b e1 h2 = .ct e2 h3) → h3 = h2) : msFor it gg b env h = forL gg b ds env h2 := by
  rw [ap_msFor, e, bindS_ok, mn, forM_src (fun h => h = h2) (fun h x => by subst x; exact ⟨o, ge⟩) (fun e1 h x e2 h3 hb => by subst x; exact keep e1 e2 h3 hb) _ 0 env h2 rfl (by omega) (by omega), List.drop_zero]
/-- a zip of lists as they stand -/
theorem iZip_q {ta : MA} {env : EV} {h h2 : IH} {a b : D} {l l' : List D} (e : ta env h = .ok [a, b] h2) (ea : qOf h2 a = some l) (eb : qOf h2 b = some l') : ∃ src, iZip ta env h = .ok src h2 ∧ src.ok h2 = true ∧ (∀ i, src.get h2 i = (List.zipWith (fun x y : D => D.tup [x, y]) l l')[i]?) ∧ src.many h2 = (List.zipWith (fun x y : D => D.tup [x, y]) l l').length := by
  have ez : zipQ a b (min l.length l'.length) h2 = some (List.zipWith (fun x y : D => D.tup [x, y]) l l') := by
    unfold zipQ
    rw [ea, eb]
    dsimp only
    rw [if_pos rfl]
  unfold iZip
  rw [e, bind_ok]
  dsimp only
  have dy : ∃ src, (R.ok (Src.dy (zipQ a b (min l.length l'.length))) h2 : R Src) = .ok src h2 ∧ src.ok h2 = true ∧ (∀ i, src.get h2 i = (List.zipWith (fun x y : D => D.tup [x, y]) l l')[i]?) ∧ src.many h2 = (List.zipWith (fun x y : D => D.tup [x, y]) l l').length :=
    ⟨_, rfl, by show (zipQ a b (min l.length l'.length) h2).isSome = true; rw [ez]; rfl, fun i => by show (zipQ a b (min l.length l'.length) h2).bind _ = _; rw [ez]; rfl, by show ((zipQ a b (min l.length l'.length) h2).getD []).length = _; rw [ez]; rfl⟩
  cases sa : stOf a with
  | none => dsimp only; rw [ea, eb]; exact dy
  | some m =>
    cases sb : stOf b with
    | none => dsimp only; rw [ea, eb]; exact dy
    | some m' =>
      have e1 : m = l := by
        cases a <;> simp [stOf] at sa <;> simp [qOf, stOf] at ea <;> rw [← sa, ← ea]
      have e2 : m' = l' := by
        cases b <;> simp [stOf] at sb <;> simp [qOf, stOf] at eb <;> rw [← sb, ← eb]
      subst e1 e2
      exact ⟨_, rfl, rfl, fun i => rfl, rfl⟩
theorem qOf_ref {h : IH} {n : Nat} {xs : List D} (e : h[n]? = some (.lst xs)) : qOf h (.ref n) = some xs := lstOf_ref e
@[simp] theorem qOf_fl {h : IH} {xs : List D} : qOf h (.fl xs) = some xs := rfl
@[simp] theorem qOf_tup {h : IH} {xs : List D} : qOf h (.tup xs) = some xs := rfl
end NR

set_option Elab.async false
set_option linter.all false
set_option maxRecDepth 100000
set_option maxHeartbeats 4000000
namespace NR
open PySem PySem.Spec PyProof.Rows L2
theorem law_word_call {b : Nat} {z c : Cell} {g : IH} {t : List Nat} {m : Nat} (tg : Tgn t) (m1 : m ≤ 1000) (hp : Pn (b + m + 1) c) :
    ∃ s c', callC 3 m__law_word [.ref 1, .str t, .int (m : Nat)] (z :: c :: g) = .ok (.str s) (z :: c' :: g) ∧ s.length ≤ m ∧ (∀ x ∈ s, x ∈ t) ∧ Pn b c' := by
  have t1 := tg.l1
  have t2 := tg.l2
  have hl : ∀ h : IH, bLen [.str t] h = .ok (.int (t.length : Nat)) h := fun h => bLen_str (by omega)
  obtain ⟨a, c2, e4, a1, p2⟩ := draw_call (b := b + m) (z := z) (g := g) (m := (m : Nat) + 1) hp (by omega) (by omega)
  have am : a ≤ m := by omega
  obtain ⟨u, c3, e5, ul, ub, p3, ju⟩ := word_draw (env := [some (.ref 1), some (.str t), some (.int (m : Nat)), some (.int (a : Nat)), none]) (it := iRange1 (mCons (mVar 3) (mNil))) (k := 4) (e := e__law_word_1) (z := z) (cc := c2) (c0 := c2) (g := g) (t := t) (n := a) (b := b) (by omega) (iRange1_of (j := (a : Nat)) (k := a) (by simp) (by omega) (by omega)) (p2.mono (by omega)) (fun d b c g hb => by
    obtain ⟨w, c1, e1, w1, q1⟩ := draw_call (b := b) (z := z) (g := g) (m := (t.length : Nat)) hb (by omega) (by omega)
    have hw : w < t.length := by omega
    have ix : ∀ h, dIx (.str t) (.int (w : Nat)) h = .ok (.str [t[w]]) h := fun h => dIx_str (by omega) (by simp [hw]) (by omega)
    refine ⟨t[w], c1, ?_, q1, List.getElem_mem hw⟩
    unfold e__law_word_1
    simp [wipeE, hl, e1, ix])
  refine ⟨u, c3, callC_pen0 rfl ?_, by omega, ub, p3⟩
  unfold m__law_word
  generalize mFz (mLc (iRange1 (mCons (mVar 3) (mNil))) (gSet 4) mYes e__law_word_1 [4]) = F at e5
  simp [e4, e5, ju]
theorem fz_dict1 {env : EV} {h : IH} {i : Int} (e : env[5]? = some (some (.int i))) : mFz (mDict [(mVar 5, mVar 5)]) env h = .ok (.fd [.inl i] [.int i]) h := by
  have ev : ∀ g, mVar 5 env g = .ok (.int i) g := fun g => by
    show (match env[5]? with | some (some d) => R.ok d g | _ => R.no) = _
    rw [e]
  rw [ap_mFz0, ap_mDict1 (k := .int i) (v := .int i) (kd := .inl i) (ev _) (ev _) rfl]
  unfold fzR
  dsimp only
  rw [List.getElem?_append_right (Nat.le_refl _), Nat.sub_self]
  dsimp only [List.getElem?_cons_zero]
  rw [if_pos ⟨Nat.le_refl _, by simp, okB_self⟩]
  simp
theorem ten60 : ∃ B : Nat, 7 ^ 61 ≤ B ∧ ∀ h : IH, dPow (.int 10) (.int 60) h = .ok (.int (B : Nat)) h := by
  refine ⟨10 ^ 60, by decide, fun h => ?_⟩
  have c : cPow 10 60 = true := by decide
  have e : ((10 ^ 60 : Nat) : Int) = (10 : Int) ^ (60 : Int).toNat := by decide +kernel
  rw [e]
  show (if cPow 10 60 = true then R.ok (D.int ((10 : Int) ^ (60 : Int).toNat)) h else R.no) = _
  rw [if_pos c]
/-- the things that no word has for a number -/
def badL (S n a B : Nat) (sx w : List Nat) : List D := [.int (S : Nat), .int ((S : Nat) + (a : Nat)), .int ((B : Nat) + (n : Nat) * (n : Nat)), .int (-1 - (n : Nat)), .bl true, .bl false, .non, .str sx, .tup [.int (n : Nat)], .fl [.int (n : Nat)], .fd [.inl (n : Nat)] [.int (n : Nat)], .str w]
theorem bad_ok {t : List Nat} (tg : Tgn t) {n a B : Nat} {sx w : List Nat} (hB : 7 ^ 61 ≤ B) {k : Nat} (hk : k < 12) : ∃ x, (badL (shS t.length 61) n a B sx w)[k]? = some x ∧ ∀ h : IH, callC 2 m_word_at [.str t, x] h = .ex "NoWord" none h := by
  have sl := shS_lt tg.l2 61
  have hk' : k = 0 ∨ k = 1 ∨ k = 2 ∨ k = 3 ∨ k = 4 ∨ k = 5 ∨ k = 6 ∨ k = 7 ∨ k = 8 ∨ k = 9 ∨ k = 10 ∨ k = 11 := by omega
  generalize hS : shS t.length 61 = S at *
  have hm : ∀ (i : Int) (m : Nat), i = (m : Nat) → S ≤ m → ∀ h : IH, callC 2 m_word_at [.str t, .int i] h = .ex "NoWord" none h := fun i m e l h => by
    rw [e]
    exact word_at_many tg (by rw [hS]; exact l)
  rcases hk' with rfl | rfl | rfl | rfl | rfl | rfl | rfl | rfl | rfl | rfl | rfl | rfl
  · exact ⟨_, rfl, hm _ S rfl (Nat.le_refl _)⟩
  · exact ⟨_, rfl, hm _ (S + a) (by omega) (by omega)⟩
  · refine ⟨_, rfl, hm _ (B + n * n) (by rw [Int.natCast_add, Int.natCast_mul]) ?_⟩
    generalize 7 ^ 61 = P at *
    omega
  · exact ⟨_, rfl, fun h => word_at_neg (by omega)⟩
  all_goals exact ⟨_, rfl, fun h => word_at_none fun h => by simp⟩
theorem numb_rep_last {t : List Nat} {cl k : Nat} (hl : ixS t cl + 1 = t.length) : numb t (List.replicate k cl) + 1 = shS t.length (k + 1) := by
  rw [numb_eq, List.length_replicate]
  have := rep_last (N := 0) (i := 0) hl k 0
  rw [Nat.zero_add, Nat.one_mul] at this
  show shS t.length k + vlu t _ + 1 = shS t.length k + t.length ^ k
  unfold vlu
  omega
theorem law_true : LawOk m_law := by
  intro ns l
  obtain ⟨c0, e0, p0⟩ := source_eq ns l
  generalize Cell.frz (ns.map D.int) = z at *
  obtain ⟨k, c1, e1, k1, p1⟩ := draw_call (b := 10000) (z := z) (c := c0) (g := []) (m := 12) (p0.mono (by omega)) (by omega) (by omega)
  obtain ⟨t, c2, e2, tg, p2⟩ := tongue_some (b := 9000) (z := z) (c := c1) (g := []) (p1.mono (by omega))
  obtain ⟨u, c3, e3, u1, p3⟩ := draw_call (b := 8000) (z := z) (g := []) (m := 5) (p2.mono (by omega)) (by omega) (by omega)
  obtain ⟨m, em, ml⟩ : ∃ m : Nat, [D.int 8, .int 60, .int 8, .int 60, .int 8][u]? = some (.int (m : Nat)) ∧ m ≤ 60 := by
    have : u = 0 ∨ u = 1 ∨ u = 2 ∨ u = 3 ∨ u = 4 := by omega
    rcases this with rfl | rfl | rfl | rfl | rfl
    · exact ⟨8, rfl, by omega⟩
    · exact ⟨60, rfl, by omega⟩
    · exact ⟨8, rfl, by omega⟩
    · exact ⟨60, rfl, by omega⟩
    · exact ⟨8, rfl, by omega⟩
  have ix : ∀ h, dIx (.fl [.int 8, .int 60, .int 8, .int 60, .int 8]) (.int (u : Nat)) h = .ok (.int (m : Nat)) h := fun h => dIx_nat (xs := [.int 8, .int 60, .int 8, .int 60, .int 8]) rfl em
  have f5 : fzD [z, c2] [z, c2] [.int 8, .int 60, .int 8, .int 60, .int 8] = .ok (.fl [.int 8, .int 60, .int 8, .int 60, .int 8]) [z, c2] := fzD_same (by simp)
  obtain ⟨w0, c4, e4, wl0, wb0, p4⟩ := law_word_call (b := 5000) (z := z) (c := c3) (g := []) (t := t) (m := m) tg (by omega) (p3.mono (by omega))
  obtain ⟨v, c5, e5, v1, p5⟩ := draw_call (b := 4000) (z := z) (c := c4) (g := []) (m := 8) (p4.mono (by omega)) (by omega) (by omega)
  have t1 := tg.l1
  have t2 := tg.l2
  obtain ⟨cl, el⟩ : ∃ cl, t[t.length - 1]? = some cl := ⟨_, List.getElem?_eq_getElem (by omega)⟩
  have hl : ixS t cl + 1 = t.length := by rw [ixS_of tg.nd el]; omega
  have mcl : cl ∈ t := List.mem_of_getElem? el
  have xl : ∀ h, dIx (.str t) (.int (-1)) h = .ok (.str [cl]) h := fun h => dIx_neg1 (h := h) el (by omega)
  -- the word
  obtain ⟨w, ew, wl, wb⟩ : ∃ w : List Nat, (w = if v = 0 then List.replicate w0.length cl else w0) ∧ w.length ≤ 60 ∧ ∀ x ∈ w, x ∈ t := by
    by_cases q : v = 0
    · exact ⟨_, rfl, by rw [if_pos q]; simp; omega, fun x hx => by rw [if_pos q] at hx; rw [List.eq_of_mem_replicate hx]; exact mcl⟩
    · exact ⟨_, rfl, by rw [if_neg q]; omega, fun x hx => by rw [if_neg q] at hx; exact wb0 x hx⟩
  have bl0 : ∀ h, bLen [.str w0] h = .ok (.int (w0.length : Nat)) h := fun h => bLen_str (by omega)
  have rp := fun h => dMul_rep (h := h) (c := cl) (k := w0.length) (by omega)
  have nc := law_number_call (h := [z, c5]) tg wb (by omega)
  have sc := law_shorter_call (h := [z, c5]) tg (k := 61) (by omega)
  have x0 : ∀ h, dIx (.tup [.int (shS t.length 61 : Nat), .int ((t.length ^ 61 : Nat) : Int)]) (.int 0) h = .ok (.int (shS t.length 61 : Nat)) h := fun h => dIx_nat (n := 0) (xs := [.int (shS t.length 61 : Nat), .int ((t.length ^ 61 : Nat) : Int)]) rfl rfl
  have sl := shS_lt t2 61
  have nlt : numb t w < shS t.length 61 := Nat.lt_of_lt_of_le (numb_lt wb) (shS_mono (by omega))
  obtain ⟨a, c6, e6, a1, p6⟩ := draw_call (b := 3000) (z := z) (c := c5) (g := []) (m := 1000) (p5.mono (by omega)) (by omega) (by omega)
  obtain ⟨B, hB, pw⟩ := ten60
  -- the calls at the end
  have no1 := fun h => number_of_call (h := h) tg wb (by omega)
  have wa1 := fun h => word_at_call (h := h) tg wb wl
  have wa0 := fun h => word_at_call (h := h) tg (w := []) (by simp) (by simp)
  have n0 : numb t [] = 0 := rfl
  have rl : numb t (List.replicate 60 cl) + 1 = shS t.length 61 := numb_rep_last (t := t) (k := 60) hl
  have waL := fun h => word_at_call (h := h) tg (w := List.replicate 60 cl) (fun x hx => by rw [List.eq_of_mem_replicate hx]; exact mcl) (by simp)
  have rp60 : ∀ h, dMul (.str [cl]) (.int 60) h = .ok (.str (List.replicate 60 cl)) h := fun h => dMul_rep (h := h) (c := cl) (k := 60) (by omega)
  obtain ⟨nx, enx, nb, nn, nl⟩ := law_next_call (h := [z, c6]) tg wb wl
  have bn : ∀ h, bLen [.str nx] h = .ok (.int (nx.length : Nat)) h := fun h => bLen_str (by omega)
  have log : (numb t w).log2 < 1920 := by
    by_cases q : numb t w = 0
    · rw [q]
      decide
    · rw [Nat.log2_lt q]
      refine Nat.lt_of_lt_of_le (Nat.lt_trans nlt (show shS t.length 61 < 7 ^ 61 by omega)) ?_
      exact Nat.le_trans (show 7 ^ 61 ≤ 2 ^ 200 by decide) (Nat.pow_le_pow_right (by omega) (by omega))
  obtain ⟨sx, esx⟩ : ∃ sx, ∀ h, bStr1 [.int (numb t w : Nat)] h = .ok (.str sx) h := by
    refine ⟨(PySem.Str.cps (toString ((numb t w : Nat) : Int))).toList, fun h => ?_⟩
    show (if _ then _ else _) = _
    rw [if_pos (by rw [Int.natAbs_natCast]; exact log)]
  have mw : ∀ h, dMulW (.int (numb t w : Nat)) (.int (numb t w : Nat)) h = .ok (.int ((numb t w : Nat) * (numb t w : Nat))) h := fun h => by
    have q : (((numb t w : Nat) : Int)).natAbs < 2 ^ 600 := by
      rw [Int.natAbs_natCast]
      refine Nat.lt_of_lt_of_le (Nat.lt_trans nlt (show shS t.length 61 < 7 ^ 61 by omega)) ?_
      exact Nat.le_trans (show 7 ^ 61 ≤ 2 ^ 200 by decide) (Nat.pow_le_pow_right (by omega) (by omega))
    exact dMulW_int q q
  obtain ⟨x, ex, bx⟩ := bad_ok tg (n := numb t w) (a := a) (B := B) (sx := sx) (w := w) hB (k := k) (by omega)
  have rf := refused_call (h := [z, c6]) (bx [z, c6])
  have rfn : 61 ≤ nx.length → callC 2 m__law_refused [.str t, .int ((numb t w : Nat) + 1)] [z, c6] = .ok (.bl true) [z, c6] := fun q => by
    refine refused_call ?_
    have e : ((numb t w : Nat) : Int) + 1 = ((numb t nx : Nat) : Int) := by rw [nn]; rfl
    rw [e]
    exact word_at_many tg (Nat.le_trans (shS_mono q) numb_ge)
  have wan : nx.length < 61 → ∀ h, callC 2 m_word_at [.str t, .int ((numb t w : Nat) + 1)] h = .ok (.str nx) h := fun q h => by
    have e : ((numb t w : Nat) : Int) + 1 = ((numb t nx : Nat) : Int) := by rw [nn]; rfl
    rw [e]
    exact word_at_call tg nb (by omega)
  have non : ∀ h, callC 2 m_number_of [.str t, .str nx] h = .ok (.int ((numb t w : Nat) + 1)) h := fun h => by
    have e : ((numb t w : Nat) : Int) + 1 = ((numb t nx : Nat) : Int) := by rw [nn]; rfl
    rw [e]
    exact number_of_call tg nb (by omega)
  have waL' : ∀ h, callC 2 m_word_at [.str t, .int ((shS t.length 61 : Nat) - 1)] h = .ok (.str (List.replicate 60 cl)) h := fun h => by
    have e : ((shS t.length 61 : Nat) : Int) - 1 = ((numb t (List.replicate 60 cl) : Nat) : Int) := by omega
    rw [e]
    exact waL h
  have wa0' : ∀ h, callC 2 m_word_at [.str t, .int 0] h = .ok (.str []) h := fun h => wa0 h
  have bxe : badL (shS t.length 61) (numb t w) a B sx w = [.int (shS t.length 61 : Nat), .int ((shS t.length 61 : Nat) + (a : Nat)), .int ((B : Nat) + (numb t w : Nat) * (numb t w : Nat)), .int (-1 - (numb t w : Nat)), .bl true, .bl false, .non, .str sx] ++ [.tup [.int (numb t w : Nat)], .fl [.int (numb t w : Nat)], .fd [.inl (numb t w : Nat)] [.int (numb t w : Nat)], .str w] := rfl
  rw [bxe] at ex
  clear wa0 n0 rl waL bx log nlt nn bxe sl hB hl
  generalize numb t w = n at *
  generalize shS t.length 61 = S at *
  generalize t.length ^ 61 = P at *
  generalize List.replicate 60 cl = R60 at *
  have f1 : fzD [z, c5] [z, c6] [.int (S : Nat), .int ((S : Nat) + (a : Nat)), .int ((B : Nat) + (n : Nat) * (n : Nat)), .int (-1 - (n : Nat)), .bl true, .bl false, .non, .str sx] = .ok (.fl [.int (S : Nat), .int ((S : Nat) + (a : Nat)), .int ((B : Nat) + (n : Nat) * (n : Nat)), .int (-1 - (n : Nat)), .bl true, .bl false, .non, .str sx]) [z, c6] := fzD_pen (fun k => by simp) (fun k => p6.lo k)
  have f2 : fzD [z, c6] [z, c6] [.int (n : Nat)] = .ok (.fl [.int (n : Nat)]) [z, c6] := fzD_same (by simp)
  have f3 : fzD [z, c6] [z, c6] [.tup [.int (n : Nat)], .fl [.int (n : Nat)], .fd [.inl (n : Nat)] [.int (n : Nat)], .str w] = .ok (.fl [.tup [.int (n : Nat)], .fl [.int (n : Nat)], .fd [.inl (n : Nat)] [.int (n : Nat)], .str w]) [z, c6] := fzD_same (by simp)
  have hM : ([.int (S : Nat), .int ((S : Nat) + (a : Nat)), .int ((B : Nat) + (n : Nat) * (n : Nat)), .int (-1 - (n : Nat)), .bl true, .bl false, .non, .str sx] ++ [.tup [.int (n : Nat)], .fl [.int (n : Nat)], .fd [.inl (n : Nat)] [.int (n : Nat)], .str w] : List D).length = 12 := rfl
  have f4 : fzR [z, c6] (dAdd (.fl [.int (S : Nat), .int ((S : Nat) + (a : Nat)), .int ((B : Nat) + (n : Nat) * (n : Nat)), .int (-1 - (n : Nat)), .bl true, .bl false, .non, .str sx]) (.fl [.tup [.int (n : Nat)], .fl [.int (n : Nat)], .fd [.inl (n : Nat)] [.int (n : Nat)], .str w]) [z, c6]) = .ok (.fl ([.int (S : Nat), .int ((S : Nat) + (a : Nat)), .int ((B : Nat) + (n : Nat) * (n : Nat)), .int (-1 - (n : Nat)), .bl true, .bl false, .non, .str sx] ++ [.tup [.int (n : Nat)], .fl [.int (n : Nat)], .fd [.inl (n : Nat)] [.int (n : Nat)], .str w])) [z, c6] := by
    rw [dAdd_fl, if_pos (by simp), fz_newL]
    exact fzD_same (by simp)
  have ixx : ∀ h, dIx (.fl ([.int (S : Nat), .int ((S : Nat) + (a : Nat)), .int ((B : Nat) + (n : Nat) * (n : Nat)), .int (-1 - (n : Nat)), .bl true, .bl false, .non, .str sx] ++ [.tup [.int (n : Nat)], .fl [.int (n : Nat)], .fd [.inl (n : Nat)] [.int (n : Nat)], .str w])) (.int (k : Nat)) h = .ok x h := fun h => dIx_nat (xs := _) rfl ex
  clear ex hM
  generalize [D.int (S : Nat), .int ((S : Nat) + (a : Nat)), .int ((B : Nat) + (n : Nat) * (n : Nat)), .int (-1 - (n : Nat)), .bl true, .bl false, .non, .str sx] ++ [.tup [.int (n : Nat)], .fl [.int (n : Nat)], .fd [.inl (n : Nat)] [.int (n : Nat)], .str w] = ALL at *
  show ∃ h', m_law _ _ = _
  refine ⟨[z, c6], ?_⟩
  unfold m_law
  rw [ap_fnM]
  simp only [List.map_cons, List.map_nil, List.length_cons, List.length_nil, List.cons_append, List.nil_append, Nat.reduceAdd, Nat.reduceSub, List.replicate]
  refine stN (env2 := [some (.ref 0), some (.ref 1), none, none, none, none, none, none, none, none]) (h2 := [z, c0]) (by simp [e0]) ?_
  refine stN (env2 := [some (.ref 0), some (.ref 1), some (.int (k : Nat)), none, none, none, none, none, none, none]) (h2 := [z, c1]) (by simp [e1]) ?_
  refine stN (env2 := [some (.ref 0), some (.ref 1), some (.int (k : Nat)), some (.str t), none, none, none, none, none, none]) (h2 := [z, c2]) (by simp [signs_call, e2]) ?_
  refine stN (env2 := [some (.ref 0), some (.ref 1), some (.int (k : Nat)), some (.str t), some (.str w0), none, none, none, none, none]) (h2 := [z, c4]) (by simp [f5, e3, ix, e4]) ?_
  refine stN (env2 := [some (.ref 0), some (.ref 1), some (.int (k : Nat)), some (.str t), some (.str w), none, none, none, none, none]) (h2 := [z, c5]) (by
    rw [ew]
    by_cases q : v = 0
    · subst q
      simp [e5, xl, bl0, rp]
    · simp [e5, q]) ?_
  refine stN (env2 := [some (.ref 0), some (.ref 1), some (.int (k : Nat)), some (.str t), some (.str w), some (.int (n : Nat)), none, none, none, none]) (h2 := [z, c5]) (by simp [nc]) ?_
  have sc' : callC 2 m__law_shorter [.str t, .int 61] [z, c5] = _ := sc
  refine stN (env2 := [some (.ref 0), some (.ref 1), some (.int (k : Nat)), some (.str t), some (.str w), some (.int (n : Nat)), some (.int (S : Nat)), none, none, none]) (h2 := [z, c5]) (by simp [sc', x0]) ?_
  refine stN (env2 := [some (.ref 0), some (.ref 1), some (.int (k : Nat)), some (.str t), some (.str w), some (.int (n : Nat)), some (.int (S : Nat)), some (.fl [.int (S : Nat), .int ((S : Nat) + (a : Nat)), .int ((B : Nat) + (n : Nat) * (n : Nat)), .int (-1 - (n : Nat)), .bl true, .bl false, .non, .str sx]), none, none]) (h2 := [z, c6]) (by
    simp [e6, pw, mw, esx, fzR, f1]) ?_
  have fd1 : ∀ env : EV, env[5]? = some (some (.int (n : Nat))) → mFz (mDict [(mVar 5, mVar 5)]) env [z, c6] = .ok (.fd [.inl (n : Nat)] [.int (n : Nat)]) [z, c6] := fun env e => fz_dict1 e
  generalize mFz (mDict [(mVar 5, mVar 5)]) = FD at *
  refine stN (env2 := [some (.ref 0), some (.ref 1), some (.int (k : Nat)), some (.str t), some (.str w), some (.int (n : Nat)), some (.int (S : Nat)), some (.fl [.int (S : Nat), .int ((S : Nat) + (a : Nat)), .int ((B : Nat) + (n : Nat) * (n : Nat)), .int (-1 - (n : Nat)), .bl true, .bl false, .non, .str sx]), some x, none]) (h2 := [z, c6]) (by
    have fd2 := fd1 [some (.ref 0), some (.ref 1), some (.int (k : Nat)), some (.str t), some (.str w), some (.int (n : Nat)), some (.int (S : Nat)), some (.fl [.int (S : Nat), .int ((S : Nat) + (a : Nat)), .int ((B : Nat) + (n : Nat) * (n : Nat)), .int (-1 - (n : Nat)), .bl true, .bl false, .non, .str sx]), none, none] rfl
    generalize [D.int (S : Nat), .int ((S : Nat) + (a : Nat)), .int ((B : Nat) + (n : Nat) * (n : Nat)), .int (-1 - (n : Nat)), .bl true, .bl false, .non, .str sx] = L1 at *
    simp [f2, fd2, f3, f4, ixx]) ?_
  generalize [D.int (S : Nat), .int ((S : Nat) + (a : Nat)), .int ((B : Nat) + (n : Nat) * (n : Nat)), .int (-1 - (n : Nat)), .bl true, .bl false, .non, .str sx] = L1 at *
  refine stN (env2 := [some (.ref 0), some (.ref 1), some (.int (k : Nat)), some (.str t), some (.str w), some (.int (n : Nat)), some (.int (S : Nat)), some (.fl L1), some x, none]) (h2 := [z, c6]) (by simp [no1, wa1, same_int, same_str]) ?_
  refine stN (env2 := [some (.ref 0), some (.ref 1), some (.int (k : Nat)), some (.str t), some (.str w), some (.int (n : Nat)), some (.int (S : Nat)), some (.fl L1), some x, none]) (h2 := [z, c6]) (by simp [rf, wa1, same_str]) ?_
  refine stN (env2 := [some (.ref 0), some (.ref 1), some (.int (k : Nat)), some (.str t), some (.str w), some (.int (n : Nat)), some (.int (S : Nat)), some (.fl L1), some x, some (.str nx)]) (h2 := [z, c6]) (by simp [enx]) ?_
  refine stN (env2 := [some (.ref 0), some (.ref 1), some (.int (k : Nat)), some (.str t), some (.str w), some (.int (n : Nat)), some (.int (S : Nat)), some (.fl L1), some x, some (.str nx)]) (h2 := [z, c6]) (by
    by_cases q : nx.length < 61
    · have q' : (nx.length : Int) < 61 := by omega
      simp [bn, q, q', wan q, non, same_str, same_int]
    · have q' : ¬ (nx.length : Int) < 61 := by omega
      simp [bn, q, q', rfn (by omega)]) ?_
  simp [waL', xl, rp60, same_str, wa0']
end NR

set_option Elab.async false
set_option linter.all false
set_option maxRecDepth 100000
set_option maxHeartbeats 4000000
namespace NR
open PySem PySem.Spec PyProof.Rows L2
theorem all_mk {l : PySem.W.OpenLaw} {w : World} {K : PySem.W.Frag} {h : Heap} {mg : Str → Option Value} {fa : Addr} (X : K.In h) (Gn : h.Ns mainGlobals mg) (hfa : mg "law" = some (.ref fa))
    (z_ValueError : PySem.W.nsIn K mainGlobals "ValueError" = some none)
    (z_abs : PySem.W.nsIn K mainGlobals "abs" = some none)
    (z_bool : PySem.W.nsIn K mainGlobals "bool" = some none)
    (z_int : PySem.W.nsIn K mainGlobals "int" = some none)
    (z_isinstance : PySem.W.nsIn K mainGlobals "isinstance" = some none)
    (z_len : PySem.W.nsIn K mainGlobals "len" = some none)
    (z_range : PySem.W.nsIn K mainGlobals "range" = some none)
    (z_str : PySem.W.nsIn K mainGlobals "str" = some none)
    (z_tuple : PySem.W.nsIn K mainGlobals "tuple" = some none)
    (z_zip : PySem.W.nsIn K mainGlobals "zip" = some none)
    (g_LONGEST : ∃ t, PySem.W.nsIn K mainGlobals "LONGEST" = some (some (.int 60 t)))
    {c_Closed : Addr} (ca_Closed : PySem.W.nsIn K mainGlobals "Closed" = some (some (.ref c_Closed)))
    {c_NoBook : Addr} (ca_NoBook : PySem.W.nsIn K mainGlobals "NoBook" = some (some (.ref c_NoBook)))
    {c_NoLine : Addr} (ca_NoLine : PySem.W.nsIn K mainGlobals "NoLine" = some (some (.ref c_NoLine)))
    {c_NoModes : Addr} (ca_NoModes : PySem.W.nsIn K mainGlobals "NoModes" = some (some (.ref c_NoModes)))
    {c_NoPlace : Addr} (ca_NoPlace : PySem.W.nsIn K mainGlobals "NoPlace" = some (some (.ref c_NoPlace)))
    {c_NoQuote : Addr} (ca_NoQuote : PySem.W.nsIn K mainGlobals "NoQuote" = some (some (.ref c_NoQuote)))
    {c_NoShape : Addr} (ca_NoShape : PySem.W.nsIn K mainGlobals "NoShape" = some (some (.ref c_NoShape)))
    {c_NoTable : Addr} (ca_NoTable : PySem.W.nsIn K mainGlobals "NoTable" = some (some (.ref c_NoTable)))
    {c_NoText : Addr} (ca_NoText : PySem.W.nsIn K mainGlobals "NoText" = some (some (.ref c_NoText)))
    {c_NoWord : Addr} (ca_NoWord : PySem.W.nsIn K mainGlobals "NoWord" = some (some (.ref c_NoWord)))
    {c_ReachError : Addr} (ca_ReachError : PySem.W.nsIn K mainGlobals "ReachError" = some (some (.ref c_ReachError)))
    {c_Stopped : Addr} (ca_Stopped : PySem.W.nsIn K mainGlobals "Stopped" = some (some (.ref c_Stopped)))
    {c_TooHeavy : Addr} (ca_TooHeavy : PySem.W.nsIn K mainGlobals "TooHeavy" = some (some (.ref c_TooHeavy)))
    {c_TooMany : Addr} (ca_TooMany : PySem.W.nsIn K mainGlobals "TooMany" = some (some (.ref c_TooMany)))
    {c_Unlike : Addr} (ca_Unlike : PySem.W.nsIn K mainGlobals "Unlike" = some (some (.ref c_Unlike)))
    (cq_NoWord : PySem.W.excIn K c_NoWord [.type "ValueError", .type "Exception", .type "BaseException", .type "object"] "ValueError.__new__" = true)
    (ck_NoWord : PySem.W.keepIn K (.ref c_NoWord) = true)
    (cb_NoWord : PySem.W.subIn K (.ref c_NoWord) (.type "BaseException") = some true)
    (ct_NoWord : PySem.W.typeIn K (.ref c_NoWord) = some (.type "type"))
    (cg_NoWord : PySem.W.findIn K (.ref c_NoWord) "__getattribute__" = some (some (.builtin "BaseException.__getattribute__")))
    (ch_NoWord : PySem.W.findIn K (.ref c_NoWord) "__getattr__" = some none)
    (cd_NoWord : PySem.W.hasDictIn K c_NoWord = true)
    (cc_NoWord : PySem.W.findIn K (.ref c_NoWord) "__class__" = some (some (.builtin "object.__class__")))
    (cm_NoWord : PySem.W.mroIn K c_NoWord (.type "object") = some true)
    (cn : PySem.W.specialIn K (.builtin "object.__class__") "__get__" = some (some (.builtin "getset_descriptor.__get__")))
    (cx : PySem.W.takesIn K (.builtin "object.__class__") = some true)
    (r_Closed : PySem.W.subIn K (.ref c_Closed) (.ref c_Closed) = some true)
    (r_NoBook : PySem.W.subIn K (.ref c_NoBook) (.ref c_NoBook) = some true)
    (r_NoLine : PySem.W.subIn K (.ref c_NoLine) (.ref c_NoLine) = some true)
    (r_NoModes : PySem.W.subIn K (.ref c_NoModes) (.ref c_NoModes) = some true)
    (r_NoPlace : PySem.W.subIn K (.ref c_NoPlace) (.ref c_NoPlace) = some true)
    (r_NoQuote : PySem.W.subIn K (.ref c_NoQuote) (.ref c_NoQuote) = some true)
    (r_NoShape : PySem.W.subIn K (.ref c_NoShape) (.ref c_NoShape) = some true)
    (r_NoTable : PySem.W.subIn K (.ref c_NoTable) (.ref c_NoTable) = some true)
    (r_NoText : PySem.W.subIn K (.ref c_NoText) (.ref c_NoText) = some true)
    (r_NoWord : PySem.W.subIn K (.ref c_NoWord) (.ref c_NoWord) = some true)
    (r_Stopped : PySem.W.subIn K (.ref c_Stopped) (.ref c_Stopped) = some true)
    (r_TooHeavy : PySem.W.subIn K (.ref c_TooHeavy) (.ref c_TooHeavy) = some true)
    (r_TooMany : PySem.W.subIn K (.ref c_TooMany) (.ref c_TooMany) = some true)
    (r_Unlike : PySem.W.subIn K (.ref c_Unlike) (.ref c_Unlike) = some true)
    (hb_Closed : PySem.W.subIn K (.ref c_Closed) (.type "BaseException") = some true)
    (hd_Closed : PySem.W.hasDictIn K c_Closed = true)
    (ht_Closed : PySem.W.typeIn K (.ref c_Closed) = some (.type "type"))
    (hb_NoBook : PySem.W.subIn K (.ref c_NoBook) (.type "BaseException") = some true)
    (hd_NoBook : PySem.W.hasDictIn K c_NoBook = true)
    (ht_NoBook : PySem.W.typeIn K (.ref c_NoBook) = some (.type "type"))
    (hb_NoLine : PySem.W.subIn K (.ref c_NoLine) (.type "BaseException") = some true)
    (hd_NoLine : PySem.W.hasDictIn K c_NoLine = true)
    (ht_NoLine : PySem.W.typeIn K (.ref c_NoLine) = some (.type "type"))
    (hb_NoModes : PySem.W.subIn K (.ref c_NoModes) (.type "BaseException") = some true)
    (hd_NoModes : PySem.W.hasDictIn K c_NoModes = true)
    (ht_NoModes : PySem.W.typeIn K (.ref c_NoModes) = some (.type "type"))
    (hb_NoPlace : PySem.W.subIn K (.ref c_NoPlace) (.type "BaseException") = some true)
    (hd_NoPlace : PySem.W.hasDictIn K c_NoPlace = true)
    (ht_NoPlace : PySem.W.typeIn K (.ref c_NoPlace) = some (.type "type"))
    (hb_NoQuote : PySem.W.subIn K (.ref c_NoQuote) (.type "BaseException") = some true)
    (hd_NoQuote : PySem.W.hasDictIn K c_NoQuote = true)
    (ht_NoQuote : PySem.W.typeIn K (.ref c_NoQuote) = some (.type "type"))
    (hb_NoShape : PySem.W.subIn K (.ref c_NoShape) (.type "BaseException") = some true)
    (hd_NoShape : PySem.W.hasDictIn K c_NoShape = true)
    (ht_NoShape : PySem.W.typeIn K (.ref c_NoShape) = some (.type "type"))
    (hb_NoTable : PySem.W.subIn K (.ref c_NoTable) (.type "BaseException") = some true)
    (hd_NoTable : PySem.W.hasDictIn K c_NoTable = true)
    (ht_NoTable : PySem.W.typeIn K (.ref c_NoTable) = some (.type "type"))
    (hb_NoText : PySem.W.subIn K (.ref c_NoText) (.type "BaseException") = some true)
    (hd_NoText : PySem.W.hasDictIn K c_NoText = true)
    (ht_NoText : PySem.W.typeIn K (.ref c_NoText) = some (.type "type"))
    (hb_NoWord : PySem.W.subIn K (.ref c_NoWord) (.type "BaseException") = some true)
    (hd_NoWord : PySem.W.hasDictIn K c_NoWord = true)
    (ht_NoWord : PySem.W.typeIn K (.ref c_NoWord) = some (.type "type"))
    (hb_ReachError : PySem.W.subIn K (.ref c_ReachError) (.type "BaseException") = some true)
    (hd_ReachError : PySem.W.hasDictIn K c_ReachError = true)
    (ht_ReachError : PySem.W.typeIn K (.ref c_ReachError) = some (.type "type"))
    (hb_Stopped : PySem.W.subIn K (.ref c_Stopped) (.type "BaseException") = some true)
    (hd_Stopped : PySem.W.hasDictIn K c_Stopped = true)
    (ht_Stopped : PySem.W.typeIn K (.ref c_Stopped) = some (.type "type"))
    (hb_TooHeavy : PySem.W.subIn K (.ref c_TooHeavy) (.type "BaseException") = some true)
    (hd_TooHeavy : PySem.W.hasDictIn K c_TooHeavy = true)
    (ht_TooHeavy : PySem.W.typeIn K (.ref c_TooHeavy) = some (.type "type"))
    (hb_TooMany : PySem.W.subIn K (.ref c_TooMany) (.type "BaseException") = some true)
    (hd_TooMany : PySem.W.hasDictIn K c_TooMany = true)
    (ht_TooMany : PySem.W.typeIn K (.ref c_TooMany) = some (.type "type"))
    (hb_Unlike : PySem.W.subIn K (.ref c_Unlike) (.type "BaseException") = some true)
    (hd_Unlike : PySem.W.hasDictIn K c_Unlike = true)
    (ht_Unlike : PySem.W.typeIn K (.ref c_Unlike) = some (.type "type"))
    (h_NoWord_ReachError : PySem.W.subIn K (.ref c_NoWord) (.ref c_ReachError) = some true)
    (i_NoWord_Closed : PySem.W.subIn K (.ref c_NoWord) (.ref c_Closed) = some false)
    (i_NoWord_NoBook : PySem.W.subIn K (.ref c_NoWord) (.ref c_NoBook) = some false)
    (i_NoWord_NoLine : PySem.W.subIn K (.ref c_NoWord) (.ref c_NoLine) = some false)
    (i_NoWord_NoModes : PySem.W.subIn K (.ref c_NoWord) (.ref c_NoModes) = some false)
    (i_NoWord_NoPlace : PySem.W.subIn K (.ref c_NoWord) (.ref c_NoPlace) = some false)
    (i_NoWord_NoQuote : PySem.W.subIn K (.ref c_NoWord) (.ref c_NoQuote) = some false)
    (i_NoWord_NoShape : PySem.W.subIn K (.ref c_NoWord) (.ref c_NoShape) = some false)
    (i_NoWord_NoTable : PySem.W.subIn K (.ref c_NoWord) (.ref c_NoTable) = some false)
    (i_NoWord_NoText : PySem.W.subIn K (.ref c_NoWord) (.ref c_NoText) = some false)
    (i_NoWord_NoWord : PySem.W.subIn K (.ref c_NoWord) (.ref c_NoWord) = some true)
    (i_NoWord_Stopped : PySem.W.subIn K (.ref c_NoWord) (.ref c_Stopped) = some false)
    (i_NoWord_TooHeavy : PySem.W.subIn K (.ref c_NoWord) (.ref c_TooHeavy) = some false)
    (i_NoWord_TooMany : PySem.W.subIn K (.ref c_NoWord) (.ref c_TooMany) = some false)
    (i_NoWord_Unlike : PySem.W.subIn K (.ref c_NoWord) (.ref c_Unlike) = some false)
    (i_NoWord_ValueError : PySem.W.subIn K (.ref c_NoWord) (.type "ValueError") = some true)
    {f0 : Addr} {od0 an0 : Option Addr} {sl0 : Array (Option Value)} {oc0 kV0 dc0 pm0 cd0 ct0 : Value} (a0 : PySem.W.nsIn K mainGlobals "is_number" = some (some (.ref f0))) (l0 : K.lookup f0 = some ⟨oc0, od0, .func (PySem.W.fnOf "is_number" "is_number" (defArgs (topS 17)) (defBody (topS 17)) (defScope (topS 17)) .none kV0 dc0 pm0 an0 cd0 ct0), sl0⟩) (b0 : PySem.W.codeIn K cd0 "is_number" = true) (k0 : PySem.W.keepIn K (.ref f0) = true)
    {f1 : Addr} {od1 an1 : Option Addr} {sl1 : Array (Option Value)} {oc1 kV1 dc1 pm1 cd1 ct1 : Value} (a1 : PySem.W.nsIn K mainGlobals "number_of" = some (some (.ref f1))) (l1 : K.lookup f1 = some ⟨oc1, od1, .func (PySem.W.fnOf "number_of" "number_of" (defArgs (topS 20)) (defBody (topS 20)) (defScope (topS 20)) .none kV1 dc1 pm1 an1 cd1 ct1), sl1⟩) (b1 : PySem.W.codeIn K cd1 "number_of" = true) (k1 : PySem.W.keepIn K (.ref f1) = true)
    {f2 : Addr} {od2 an2 : Option Addr} {sl2 : Array (Option Value)} {oc2 kV2 dc2 pm2 cd2 ct2 : Value} (a2 : PySem.W.nsIn K mainGlobals "_law_pen" = some (some (.ref f2))) (l2 : K.lookup f2 = some ⟨oc2, od2, .func (PySem.W.fnOf "_law_pen" "_law_pen" (defArgs (topS 23)) (defBody (topS 23)) (defScope (topS 23)) .none kV2 dc2 pm2 an2 cd2 ct2), sl2⟩) (b2 : PySem.W.codeIn K cd2 "_law_pen" = true) (k2 : PySem.W.keepIn K (.ref f2) = true)
    {f3 : Addr} {od3 an3 : Option Addr} {sl3 : Array (Option Value)} {oc3 kV3 dc3 pm3 cd3 ct3 : Value} (a3 : PySem.W.nsIn K mainGlobals "_law_take" = some (some (.ref f3))) (l3 : K.lookup f3 = some ⟨oc3, od3, .func (PySem.W.fnOf "_law_take" "_law_take" (defArgs (topS 24)) (defBody (topS 24)) (defScope (topS 24)) .none kV3 dc3 pm3 an3 cd3 ct3), sl3⟩) (b3 : PySem.W.codeIn K cd3 "_law_take" = true) (k3 : PySem.W.keepIn K (.ref f3) = true)
    {f4 : Addr} {od4 an4 : Option Addr} {sl4 : Array (Option Value)} {oc4 kV4 dc4 pm4 cd4 ct4 : Value} (a4 : PySem.W.nsIn K mainGlobals "_law_signs" = some (some (.ref f4))) (l4 : K.lookup f4 = some ⟨oc4, od4, .func (PySem.W.fnOf "_law_signs" "_law_signs" (defArgs (topS 25)) (defBody (topS 25)) (defScope (topS 25)) .none kV4 dc4 pm4 an4 cd4 ct4), sl4⟩) (b4 : PySem.W.codeIn K cd4 "_law_signs" = true) (k4 : PySem.W.keepIn K (.ref f4) = true)
    {f5 : Addr} {od5 an5 : Option Addr} {sl5 : Array (Option Value)} {oc5 kV5 dc5 pm5 cd5 ct5 : Value} (a5 : PySem.W.nsIn K mainGlobals "_law_others" = some (some (.ref f5))) (l5 : K.lookup f5 = some ⟨oc5, od5, .func (PySem.W.fnOf "_law_others" "_law_others" (defArgs (topS 29)) (defBody (topS 29)) (defScope (topS 29)) .none kV5 dc5 pm5 an5 cd5 ct5), sl5⟩) (b5 : PySem.W.codeIn K cd5 "_law_others" = true) (k5 : PySem.W.keepIn K (.ref f5) = true)
    {f6 : Addr} {od6 an6 : Option Addr} {sl6 : Array (Option Value)} {oc6 kV6 dc6 pm6 cd6 ct6 : Value} (a6 : PySem.W.nsIn K mainGlobals "_law_shorter" = some (some (.ref f6))) (l6 : K.lookup f6 = some ⟨oc6, od6, .func (PySem.W.fnOf "_law_shorter" "_law_shorter" (defArgs (topS 31)) (defBody (topS 31)) (defScope (topS 31)) .none kV6 dc6 pm6 an6 cd6 ct6), sl6⟩) (b6 : PySem.W.codeIn K cd6 "_law_shorter" = true) (k6 : PySem.W.keepIn K (.ref f6) = true)
    {f7 : Addr} {od7 an7 : Option Addr} {sl7 : Array (Option Value)} {oc7 kV7 dc7 pm7 cd7 ct7 : Value} (a7 : PySem.W.nsIn K mainGlobals "_law_next" = some (some (.ref f7))) (l7 : K.lookup f7 = some ⟨oc7, od7, .func (PySem.W.fnOf "_law_next" "_law_next" (defArgs (topS 33)) (defBody (topS 33)) (defScope (topS 33)) .none kV7 dc7 pm7 an7 cd7 ct7), sl7⟩) (b7 : PySem.W.codeIn K cd7 "_law_next" = true) (k7 : PySem.W.keepIn K (.ref f7) = true)
    {f8 : Addr} {od8 an8 : Option Addr} {sl8 : Array (Option Value)} {oc8 kV8 dc8 pm8 cd8 ct8 : Value} (a8 : PySem.W.nsIn K mainGlobals "word_at" = some (some (.ref f8))) (l8 : K.lookup f8 = some ⟨oc8, od8, .func (PySem.W.fnOf "word_at" "word_at" (defArgs (topS 21)) (defBody (topS 21)) (defScope (topS 21)) .none kV8 dc8 pm8 an8 cd8 ct8), sl8⟩) (b8 : PySem.W.codeIn K cd8 "word_at" = true) (k8 : PySem.W.keepIn K (.ref f8) = true)
    {f9 : Addr} {od9 an9 : Option Addr} {sl9 : Array (Option Value)} {oc9 kV9 dc9 pm9 cd9 ct9 : Value} (a9 : PySem.W.nsIn K mainGlobals "_law_some" = some (some (.ref f9))) (l9 : K.lookup f9 = some ⟨oc9, od9, .func (PySem.W.fnOf "_law_some" "_law_some" (defArgs (topS 26)) (defBody (topS 26)) (defScope (topS 26)) .none kV9 dc9 pm9 an9 cd9 ct9), sl9⟩) (b9 : PySem.W.codeIn K cd9 "_law_some" = true) (k9 : PySem.W.keepIn K (.ref f9) = true)
    {f10 : Addr} {od10 an10 : Option Addr} {sl10 : Array (Option Value)} {oc10 kV10 dc10 pm10 cd10 ct10 : Value} (a10 : PySem.W.nsIn K mainGlobals "_law_word" = some (some (.ref f10))) (l10 : K.lookup f10 = some ⟨oc10, od10, .func (PySem.W.fnOf "_law_word" "_law_word" (defArgs (topS 27)) (defBody (topS 27)) (defScope (topS 27)) .none kV10 dc10 pm10 an10 cd10 ct10), sl10⟩) (b10 : PySem.W.codeIn K cd10 "_law_word" = true) (k10 : PySem.W.keepIn K (.ref f10) = true)
    {f11 : Addr} {od11 an11 : Option Addr} {sl11 : Array (Option Value)} {oc11 kV11 dc11 pm11 cd11 ct11 : Value} (a11 : PySem.W.nsIn K mainGlobals "_law_number" = some (some (.ref f11))) (l11 : K.lookup f11 = some ⟨oc11, od11, .func (PySem.W.fnOf "_law_number" "_law_number" (defArgs (topS 32)) (defBody (topS 32)) (defScope (topS 32)) .none kV11 dc11 pm11 an11 cd11 ct11), sl11⟩) (b11 : PySem.W.codeIn K cd11 "_law_number" = true) (k11 : PySem.W.keepIn K (.ref f11) = true)
    {f12 : Addr} {od12 an12 : Option Addr} {sl12 : Array (Option Value)} {oc12 kV12 dc12 pm12 cd12 ct12 : Value} (a12 : PySem.W.nsIn K mainGlobals "_law_refused" = some (some (.ref f12))) (l12 : K.lookup f12 = some ⟨oc12, od12, .func (PySem.W.fnOf "_law_refused" "_law_refused" (defArgs (topS 30)) (defBody (topS 30)) (defScope (topS 30)) .none kV12 dc12 pm12 an12 cd12 ct12), sl12⟩) (b12 : PySem.W.codeIn K cd12 "_law_refused" = true) (k12 : PySem.W.keepIn K (.ref f12) = true)
    {f13 : Addr} {od13 an13 : Option Addr} {sl13 : Array (Option Value)} {oc13 kV13 dc13 pm13 cd13 ct13 : Value} (a13 : PySem.W.nsIn K mainGlobals "_law_same" = some (some (.ref f13))) (l13 : K.lookup f13 = some ⟨oc13, od13, .func (PySem.W.fnOf "_law_same" "_law_same" (defArgs (topS 28)) (defBody (topS 28)) (defScope (topS 28)) .none kV13 dc13 pm13 an13 cd13 ct13), sl13⟩) (b13 : PySem.W.codeIn K cd13 "_law_same" = true) (k13 : PySem.W.keepIn K (.ref f13) = true)
    {f14 : Addr} {od14 an14 : Option Addr} {sl14 : Array (Option Value)} {oc14 kV14 dc14 pm14 cd14 ct14 : Value} (a14 : PySem.W.nsIn K mainGlobals "law" = some (some (.ref f14))) (l14 : K.lookup f14 = some ⟨oc14, od14, .func (PySem.W.fnOf "law" "law" (defArgs (topS 34)) (defBody (topS 34)) (defScope (topS 34)) .none kV14 dc14 pm14 an14 cd14 ct14), sl14⟩) (b14 : PySem.W.codeIn K cd14 "law" = true) (k14 : PySem.W.keepIn K (.ref f14) = true) :
    ∃ fd : FuncData, (∀ (s : Shared) (v : Value), BindsTo s fd ⟨[v], []⟩ [("_law_script", v)]) ∧ ∀ base : Heap, K.In base → base.Ns mainGlobals mg → FnOk l.prog w K mg base (L2.CX l.prog w) 25 fa fd ["_law_script"] (spLaw ⟨K, fun _ => 0⟩ m_law) := by
  have e := hfa.symm.trans (PySem.W.mg_of X Gn a14)
  cases e
  have F0 := fun_mk (st := topS 17) l0 b0 k0
  have B0 := F0.binds (ps := ["thing"]) fun _ _ _ _ _ _ us hl => match us, hl with | [_], _ => rfl
  have F1 := fun_mk (st := topS 20) l1 b1 k1
  have B1 := F1.binds (ps := ["tongue", "word"]) fun _ _ _ _ _ _ us hl => match us, hl with | [_, _], _ => rfl
  have F2 := fun_mk (st := topS 23) l2 b2 k2
  have B2 := F2.binds (ps := ["_law_script"]) fun _ _ _ _ _ _ us hl => match us, hl with | [_], _ => rfl
  have F3 := fun_mk (st := topS 24) l3 b3 k3
  have B3 := F3.binds (ps := ["_law_pen_here", "_law_many"]) fun _ _ _ _ _ _ us hl => match us, hl with | [_, _], _ => rfl
  have F4 := fun_mk (st := topS 25) l4 b4 k4
  have B4 := F4.binds (ps := []) fun _ _ _ _ _ _ us hl => match us, hl with | [], _ => rfl
  have F5 := fun_mk (st := topS 29) l5 b5 k5
  have B5 := F5.binds (ps := ["_law_e"]) fun _ _ _ _ _ _ us hl => match us, hl with | [_], _ => rfl
  have F6 := fun_mk (st := topS 31) l6 b6 k6
  have B6 := F6.binds (ps := ["_law_tongue", "_law_size"]) fun _ _ _ _ _ _ us hl => match us, hl with | [_, _], _ => rfl
  have F7 := fun_mk (st := topS 33) l7 b7 k7
  have B7 := F7.binds (ps := ["_law_tongue", "_law_word_here"]) fun _ _ _ _ _ _ us hl => match us, hl with | [_, _], _ => rfl
  have F8 := fun_mk (st := topS 21) l8 b8 k8
  have B8 := F8.binds (ps := ["tongue", "number"]) fun _ _ _ _ _ _ us hl => match us, hl with | [_, _], _ => rfl
  have F9 := fun_mk (st := topS 26) l9 b9 k9
  have B9 := F9.binds (ps := ["_law_pen_here", "_law_rest", "_law_most"]) fun _ _ _ _ _ _ us hl => match us, hl with | [_, _, _], _ => rfl
  have F10 := fun_mk (st := topS 27) l10 b10 k10
  have B10 := F10.binds (ps := ["_law_pen_here", "_law_tongue", "_law_most"]) fun _ _ _ _ _ _ us hl => match us, hl with | [_, _, _], _ => rfl
  have F11 := fun_mk (st := topS 32) l11 b11 k11
  have B11 := F11.binds (ps := ["_law_tongue", "_law_word_here"]) fun _ _ _ _ _ _ us hl => match us, hl with | [_, _], _ => rfl
  have F12 := fun_mk (st := topS 30) l12 b12 k12
  have B12 := F12.binds (ps := ["_law_tongue", "_law_number_here"]) fun _ _ _ _ _ _ us hl => match us, hl with | [_, _], _ => rfl
  have F13 := fun_mk (st := topS 28) l13 b13 k13
  have B13 := F13.binds (ps := ["_law_found", "_law_due"]) fun _ _ _ _ _ _ us hl => match us, hl with | [_, _], _ => rfl
  have F14 := fun_mk (st := topS 34) l14 b14 k14
  have B14 := F14.binds (ps := ["_law_script"]) fun _ _ _ _ _ _ us hl => match us, hl with | [_], _ => rfl
  obtain ⟨cl, e_Closed, e_NoBook, e_NoLine, e_NoModes, e_NoPlace, e_NoQuote, e_NoShape, e_NoTable, e_NoText, e_NoWord, e_ReachError, e_Stopped, e_TooHeavy, e_TooMany, e_Unlike⟩ : ∃ cl : Str → Addr, cl "Closed" = c_Closed ∧ cl "NoBook" = c_NoBook ∧ cl "NoLine" = c_NoLine ∧ cl "NoModes" = c_NoModes ∧ cl "NoPlace" = c_NoPlace ∧ cl "NoQuote" = c_NoQuote ∧ cl "NoShape" = c_NoShape ∧ cl "NoTable" = c_NoTable ∧ cl "NoText" = c_NoText ∧ cl "NoWord" = c_NoWord ∧ cl "ReachError" = c_ReachError ∧ cl "Stopped" = c_Stopped ∧ cl "TooHeavy" = c_TooHeavy ∧ cl "TooMany" = c_TooMany ∧ cl "Unlike" = c_Unlike := ⟨fun s => if s = "Closed" then c_Closed else (if s = "NoBook" then c_NoBook else (if s = "NoLine" then c_NoLine else (if s = "NoModes" then c_NoModes else (if s = "NoPlace" then c_NoPlace else (if s = "NoQuote" then c_NoQuote else (if s = "NoShape" then c_NoShape else (if s = "NoTable" then c_NoTable else (if s = "NoText" then c_NoText else (if s = "NoWord" then c_NoWord else (if s = "ReachError" then c_ReachError else (if s = "Stopped" then c_Stopped else (if s = "TooHeavy" then c_TooHeavy else (if s = "TooMany" then c_TooMany else (if s = "Unlike" then c_Unlike else (0))))))))))))))), if_pos rfl, (if_neg (by decide)).trans (if_pos rfl), (if_neg (by decide)).trans ((if_neg (by decide)).trans (if_pos rfl)), (if_neg (by decide)).trans ((if_neg (by decide)).trans ((if_neg (by decide)).trans (if_pos rfl))), (if_neg (by decide)).trans ((if_neg (by decide)).trans ((if_neg (by decide)).trans ((if_neg (by decide)).trans (if_pos rfl)))), (if_neg (by decide)).trans ((if_neg (by decide)).trans ((if_neg (by decide)).trans ((if_neg (by decide)).trans ((if_neg (by decide)).trans (if_pos rfl))))), (if_neg (by decide)).trans ((if_neg (by decide)).trans ((if_neg (by decide)).trans ((if_neg (by decide)).trans ((if_neg (by decide)).trans ((if_neg (by decide)).trans (if_pos rfl)))))), (if_neg (by decide)).trans ((if_neg (by decide)).trans ((if_neg (by decide)).trans ((if_neg (by decide)).trans ((if_neg (by decide)).trans ((if_neg (by decide)).trans ((if_neg (by decide)).trans (if_pos rfl))))))), (if_neg (by decide)).trans ((if_neg (by decide)).trans ((if_neg (by decide)).trans ((if_neg (by decide)).trans ((if_neg (by decide)).trans ((if_neg (by decide)).trans ((if_neg (by decide)).trans ((if_neg (by decide)).trans (if_pos rfl)))))))), (if_neg (by decide)).trans ((if_neg (by decide)).trans ((if_neg (by decide)).trans ((if_neg (by decide)).trans ((if_neg (by decide)).trans ((if_neg (by decide)).trans ((if_neg (by decide)).trans ((if_neg (by decide)).trans ((if_neg (by decide)).trans (if_pos rfl))))))))), (if_neg (by decide)).trans ((if_neg (by decide)).trans ((if_neg (by decide)).trans ((if_neg (by decide)).trans ((if_neg (by decide)).trans ((if_neg (by decide)).trans ((if_neg (by decide)).trans ((if_neg (by decide)).trans ((if_neg (by decide)).trans ((if_neg (by decide)).trans (if_pos rfl)))))))))), (if_neg (by decide)).trans ((if_neg (by decide)).trans ((if_neg (by decide)).trans ((if_neg (by decide)).trans ((if_neg (by decide)).trans ((if_neg (by decide)).trans ((if_neg (by decide)).trans ((if_neg (by decide)).trans ((if_neg (by decide)).trans ((if_neg (by decide)).trans ((if_neg (by decide)).trans (if_pos rfl))))))))))), (if_neg (by decide)).trans ((if_neg (by decide)).trans ((if_neg (by decide)).trans ((if_neg (by decide)).trans ((if_neg (by decide)).trans ((if_neg (by decide)).trans ((if_neg (by decide)).trans ((if_neg (by decide)).trans ((if_neg (by decide)).trans ((if_neg (by decide)).trans ((if_neg (by decide)).trans ((if_neg (by decide)).trans (if_pos rfl)))))))))))), (if_neg (by decide)).trans ((if_neg (by decide)).trans ((if_neg (by decide)).trans ((if_neg (by decide)).trans ((if_neg (by decide)).trans ((if_neg (by decide)).trans ((if_neg (by decide)).trans ((if_neg (by decide)).trans ((if_neg (by decide)).trans ((if_neg (by decide)).trans ((if_neg (by decide)).trans ((if_neg (by decide)).trans ((if_neg (by decide)).trans (if_pos rfl))))))))))))), (if_neg (by decide)).trans ((if_neg (by decide)).trans ((if_neg (by decide)).trans ((if_neg (by decide)).trans ((if_neg (by decide)).trans ((if_neg (by decide)).trans ((if_neg (by decide)).trans ((if_neg (by decide)).trans ((if_neg (by decide)).trans ((if_neg (by decide)).trans ((if_neg (by decide)).trans ((if_neg (by decide)).trans ((if_neg (by decide)).trans ((if_neg (by decide)).trans (if_pos rfl))))))))))))))⟩
  subst e_Closed
  subst e_NoBook
  subst e_NoLine
  subst e_NoModes
  subst e_NoPlace
  subst e_NoQuote
  subst e_NoShape
  subst e_NoTable
  subst e_NoText
  subst e_NoWord
  subst e_ReachError
  subst e_Stopped
  subst e_TooHeavy
  subst e_TooMany
  subst e_Unlike
  have ec_NoWord : ExcC K (cl "NoWord") := ⟨cg_NoWord, ch_NoWord, cb_NoWord, cd_NoWord, cc_NoWord, cn, cx, cm_NoWord⟩
  exact ⟨PySem.W.fnOf "law" "law" (defArgs (topS 34)) (defBody (topS 34)) (defScope (topS 34)) .none kV14 dc14 pm14 an14 cd14 ct14, fun s v => .of_eq rfl, fun base _ _ => 
    law_ok (G := ⟨K, cl⟩) (all_ok (P := l.prog) (w := w) (base := base) (K := K) (mg := mg) cl (PySem.W.mg_none_of X Gn z_ValueError) (PySem.W.mg_none_of X Gn z_abs) (PySem.W.mg_none_of X Gn z_bool) (PySem.W.mg_none_of X Gn z_int) (PySem.W.mg_none_of X Gn z_isinstance) (PySem.W.mg_none_of X Gn z_len) (PySem.W.mg_none_of X Gn z_range) (PySem.W.mg_none_of X Gn z_str) (PySem.W.mg_none_of X Gn z_tuple) (PySem.W.mg_none_of X Gn z_zip) (glI_of X Gn g_LONGEST (by decide +kernel)) ⟨PySem.W.mg_of X Gn ca_NoWord, cq_NoWord, ck_NoWord, cb_NoWord, ct_NoWord, ec_NoWord⟩ (PySem.W.mg_of X Gn ca_Closed) (PySem.W.mg_of X Gn ca_NoBook) (PySem.W.mg_of X Gn ca_NoLine) (PySem.W.mg_of X Gn ca_NoModes) (PySem.W.mg_of X Gn ca_NoPlace) (PySem.W.mg_of X Gn ca_NoQuote) (PySem.W.mg_of X Gn ca_NoShape) (PySem.W.mg_of X Gn ca_NoTable) (PySem.W.mg_of X Gn ca_NoText) (PySem.W.mg_of X Gn ca_NoWord) (PySem.W.mg_of X Gn ca_ReachError) (PySem.W.mg_of X Gn ca_Stopped) (PySem.W.mg_of X Gn ca_TooHeavy) (PySem.W.mg_of X Gn ca_TooMany) (PySem.W.mg_of X Gn ca_Unlike) (exH_cons (by show PySem.W.exmOne K _ (clU cl "ReachError") = _; rw [clU_own (by decide)]; exact PySem.W.exm_ref hb_ReachError hd_ReachError ht_ReachError h_NoWord_ReachError) (exH_nil)) (exI_cons (by show PySem.W.kitOne K _ (clU cl "Closed") = _; rw [clU_own (by decide)]; exact kit_ref hd_Closed ht_Closed i_NoWord_Closed r_Closed) ec_NoWord (exI_cons (by show PySem.W.kitOne K _ (clU cl "NoBook") = _; rw [clU_own (by decide)]; exact kit_ref hd_NoBook ht_NoBook i_NoWord_NoBook r_NoBook) ec_NoWord (exI_cons (by show PySem.W.kitOne K _ (clU cl "NoLine") = _; rw [clU_own (by decide)]; exact kit_ref hd_NoLine ht_NoLine i_NoWord_NoLine r_NoLine) ec_NoWord (exI_cons (by show PySem.W.kitOne K _ (clU cl "NoModes") = _; rw [clU_own (by decide)]; exact kit_ref hd_NoModes ht_NoModes i_NoWord_NoModes r_NoModes) ec_NoWord (exI_cons (by show PySem.W.kitOne K _ (clU cl "NoPlace") = _; rw [clU_own (by decide)]; exact kit_ref hd_NoPlace ht_NoPlace i_NoWord_NoPlace r_NoPlace) ec_NoWord (exI_cons (by show PySem.W.kitOne K _ (clU cl "NoQuote") = _; rw [clU_own (by decide)]; exact kit_ref hd_NoQuote ht_NoQuote i_NoWord_NoQuote r_NoQuote) ec_NoWord (exI_cons (by show PySem.W.kitOne K _ (clU cl "NoShape") = _; rw [clU_own (by decide)]; exact kit_ref hd_NoShape ht_NoShape i_NoWord_NoShape r_NoShape) ec_NoWord (exI_cons (by show PySem.W.kitOne K _ (clU cl "NoTable") = _; rw [clU_own (by decide)]; exact kit_ref hd_NoTable ht_NoTable i_NoWord_NoTable r_NoTable) ec_NoWord (exI_cons (by show PySem.W.kitOne K _ (clU cl "NoText") = _; rw [clU_own (by decide)]; exact kit_ref hd_NoText ht_NoText i_NoWord_NoText r_NoText) ec_NoWord (exI_cons (by show PySem.W.kitOne K _ (clU cl "NoWord") = _; rw [clU_own (by decide)]; exact kit_ref hd_NoWord ht_NoWord i_NoWord_NoWord r_NoWord) ec_NoWord (exI_cons (by show PySem.W.kitOne K _ (clU cl "Stopped") = _; rw [clU_own (by decide)]; exact kit_ref hd_Stopped ht_Stopped i_NoWord_Stopped r_Stopped) ec_NoWord (exI_cons (by show PySem.W.kitOne K _ (clU cl "TooHeavy") = _; rw [clU_own (by decide)]; exact kit_ref hd_TooHeavy ht_TooHeavy i_NoWord_TooHeavy r_TooHeavy) ec_NoWord (exI_cons (by show PySem.W.kitOne K _ (clU cl "TooMany") = _; rw [clU_own (by decide)]; exact kit_ref hd_TooMany ht_TooMany i_NoWord_TooMany r_TooMany) ec_NoWord (exI_cons (by show PySem.W.kitOne K _ (clU cl "Unlike") = _; rw [clU_own (by decide)]; exact kit_ref hd_Unlike ht_Unlike i_NoWord_Unlike r_Unlike) ec_NoWord (exI_cons (by show PySem.W.kitOne K _ (clU cl "ValueError") = _; rw [clU_val]; exact kit_val i_NoWord_ValueError) ec_NoWord (exI_nil)))))))))))))))) ⟨_, _, F0, PySem.W.mg_of X Gn a0, B0⟩ ⟨_, _, F1, PySem.W.mg_of X Gn a1, B1⟩ ⟨_, _, F2, PySem.W.mg_of X Gn a2, B2⟩ ⟨_, _, F3, PySem.W.mg_of X Gn a3, B3⟩ ⟨_, _, F4, PySem.W.mg_of X Gn a4, B4⟩ ⟨_, _, F5, PySem.W.mg_of X Gn a5, B5⟩ ⟨_, _, F6, PySem.W.mg_of X Gn a6, B6⟩ ⟨_, _, F7, PySem.W.mg_of X Gn a7, B7⟩ ⟨_, _, F8, PySem.W.mg_of X Gn a8, B8⟩ ⟨_, _, F9, PySem.W.mg_of X Gn a9, B9⟩ ⟨_, _, F10, PySem.W.mg_of X Gn a10, B10⟩ ⟨_, _, F11, PySem.W.mg_of X Gn a11, B11⟩ ⟨_, _, F12, PySem.W.mg_of X Gn a12, B12⟩ ⟨_, _, F13, PySem.W.mg_of X Gn a13, B13⟩ F14) law_true⟩
end NR
open PySem PySem.W PyProof.Rows
set_option maxHeartbeats 0 in
theorem PySem.Challenge.cw_nearreach_k03_numbers_of_words_holds : PySem.Challenge.rw_nearreach_k03_numbers_of_words.Holds := by
  w_on; o_law; k_head; (case hw => w_witness2)
  k_fill
  refine L2.walk_of (l := PySem.Challenge.rw_nearreach_k03_numbers_of_words) (n := 63) (k := 25) (x := "_law_script") (CX := fun w => L2.CX (PySem.Challenge.rw_nearreach_k03_numbers_of_words).prog w) (sp := fun w => NR.spLaw ⟨_, fun _ => 0⟩ NR.m_law) rfl (by decide) rfl ⟨rfl, by decide, by decide⟩ (fun w h Y => PySem.W.kIn_of Y) ?F (fun _ H a ns hl ho hS => ⟨a, ns, rfl, hl, ho, hS, fun _ => rfl⟩) (fun w H s e s' hx => NR.cx_no hx)
  case F =>
    intro w mg fa h KX G hmg
    refine' NR.all_mk KX G hmg ?z_ValueError ?z_abs ?z_bool ?z_int ?z_isinstance ?z_len ?z_range ?z_str ?z_tuple ?z_zip ?g_LONGEST ?ca_Closed ?ca_NoBook ?ca_NoLine ?ca_NoModes ?ca_NoPlace ?ca_NoQuote ?ca_NoShape ?ca_NoTable ?ca_NoText ?ca_NoWord ?ca_ReachError ?ca_Stopped ?ca_TooHeavy ?ca_TooMany ?ca_Unlike ?cq_NoWord ?ck_NoWord ?cb_NoWord ?ct_NoWord ?cg_NoWord ?ch_NoWord ?cd_NoWord ?cc_NoWord ?cm_NoWord ?cn ?cx ?r_Closed ?r_NoBook ?r_NoLine ?r_NoModes ?r_NoPlace ?r_NoQuote ?r_NoShape ?r_NoTable ?r_NoText ?r_NoWord ?r_Stopped ?r_TooHeavy ?r_TooMany ?r_Unlike ?hb_Closed ?hd_Closed ?ht_Closed ?hb_NoBook ?hd_NoBook ?ht_NoBook ?hb_NoLine ?hd_NoLine ?ht_NoLine ?hb_NoModes ?hd_NoModes ?ht_NoModes ?hb_NoPlace ?hd_NoPlace ?ht_NoPlace ?hb_NoQuote ?hd_NoQuote ?ht_NoQuote ?hb_NoShape ?hd_NoShape ?ht_NoShape ?hb_NoTable ?hd_NoTable ?ht_NoTable ?hb_NoText ?hd_NoText ?ht_NoText ?hb_NoWord ?hd_NoWord ?ht_NoWord ?hb_ReachError ?hd_ReachError ?ht_ReachError ?hb_Stopped ?hd_Stopped ?ht_Stopped ?hb_TooHeavy ?hd_TooHeavy ?ht_TooHeavy ?hb_TooMany ?hd_TooMany ?ht_TooMany ?hb_Unlike ?hd_Unlike ?ht_Unlike ?h_NoWord_ReachError ?i_NoWord_Closed ?i_NoWord_NoBook ?i_NoWord_NoLine ?i_NoWord_NoModes ?i_NoWord_NoPlace ?i_NoWord_NoQuote ?i_NoWord_NoShape ?i_NoWord_NoTable ?i_NoWord_NoText ?i_NoWord_NoWord ?i_NoWord_Stopped ?i_NoWord_TooHeavy ?i_NoWord_TooMany ?i_NoWord_Unlike ?i_NoWord_ValueError ?a0 ?l0 ?b0 ?k0 ?a1 ?l1 ?b1 ?k1 ?a2 ?l2 ?b2 ?k2 ?a3 ?l3 ?b3 ?k3 ?a4 ?l4 ?b4 ?k4 ?a5 ?l5 ?b5 ?k5 ?a6 ?l6 ?b6 ?k6 ?a7 ?l7 ?b7 ?k7 ?a8 ?l8 ?b8 ?k8 ?a9 ?l9 ?b9 ?k9 ?a10 ?l10 ?b10 ?k10 ?a11 ?l11 ?b11 ?k11 ?a12 ?l12 ?b12 ?k12 ?a13 ?l13 ?b13 ?k13 ?a14 ?l14 ?b14 ?k14
    (case z_ValueError => k_is)
    (case z_abs => k_is)
    (case z_bool => k_is)
    (case z_int => k_is)
    (case z_isinstance => k_is)
    (case z_len => k_is)
    (case z_range => k_is)
    (case z_str => k_is)
    (case z_tuple => k_is)
    (case z_zip => k_is)
    (case g_LONGEST => exact ⟨_, by k_is⟩)
    (case ca_Closed => k_is)
    (case ca_NoBook => k_is)
    (case ca_NoLine => k_is)
    (case ca_NoModes => k_is)
    (case ca_NoPlace => k_is)
    (case ca_NoQuote => k_is)
    (case ca_NoShape => k_is)
    (case ca_NoTable => k_is)
    (case ca_NoText => k_is)
    (case ca_NoWord => k_is)
    (case ca_ReachError => k_is)
    (case ca_Stopped => k_is)
    (case ca_TooHeavy => k_is)
    (case ca_TooMany => k_is)
    (case ca_Unlike => k_is)
    (case cq_NoWord => k_exc)
    (case ck_NoWord => k_is)
    (case cb_NoWord => k_is)
    (case ct_NoWord => k_is)
    (case cg_NoWord => k_is)
    (case ch_NoWord => k_is)
    (case cd_NoWord => k_is)
    (case cc_NoWord => k_is)
    (case cm_NoWord => k_is)
    (case cn => k_is)
    (case cx => k_is)
    (case r_Closed => first | rfl | k_is)
    (case r_NoBook => first | rfl | k_is)
    (case r_NoLine => first | rfl | k_is)
    (case r_NoModes => first | rfl | k_is)
    (case r_NoPlace => first | rfl | k_is)
    (case r_NoQuote => first | rfl | k_is)
    (case r_NoShape => first | rfl | k_is)
    (case r_NoTable => first | rfl | k_is)
    (case r_NoText => first | rfl | k_is)
    (case r_NoWord => first | rfl | k_is)
    (case r_Stopped => first | rfl | k_is)
    (case r_TooHeavy => first | rfl | k_is)
    (case r_TooMany => first | rfl | k_is)
    (case r_Unlike => first | rfl | k_is)
    (case hb_Closed => k_is)
    (case hd_Closed => k_is)
    (case ht_Closed => k_is)
    (case hb_NoBook => k_is)
    (case hd_NoBook => k_is)
    (case ht_NoBook => k_is)
    (case hb_NoLine => k_is)
    (case hd_NoLine => k_is)
    (case ht_NoLine => k_is)
    (case hb_NoModes => k_is)
    (case hd_NoModes => k_is)
    (case ht_NoModes => k_is)
    (case hb_NoPlace => k_is)
    (case hd_NoPlace => k_is)
    (case ht_NoPlace => k_is)
    (case hb_NoQuote => k_is)
    (case hd_NoQuote => k_is)
    (case ht_NoQuote => k_is)
    (case hb_NoShape => k_is)
    (case hd_NoShape => k_is)
    (case ht_NoShape => k_is)
    (case hb_NoTable => k_is)
    (case hd_NoTable => k_is)
    (case ht_NoTable => k_is)
    (case hb_NoText => k_is)
    (case hd_NoText => k_is)
    (case ht_NoText => k_is)
    (case hb_NoWord => k_is)
    (case hd_NoWord => k_is)
    (case ht_NoWord => k_is)
    (case hb_ReachError => k_is)
    (case hd_ReachError => k_is)
    (case ht_ReachError => k_is)
    (case hb_Stopped => k_is)
    (case hd_Stopped => k_is)
    (case ht_Stopped => k_is)
    (case hb_TooHeavy => k_is)
    (case hd_TooHeavy => k_is)
    (case ht_TooHeavy => k_is)
    (case hb_TooMany => k_is)
    (case hd_TooMany => k_is)
    (case ht_TooMany => k_is)
    (case hb_Unlike => k_is)
    (case hd_Unlike => k_is)
    (case ht_Unlike => k_is)
    (case h_NoWord_ReachError => first | rfl | k_is)
    (case i_NoWord_Closed => first | rfl | k_is)
    (case i_NoWord_NoBook => first | rfl | k_is)
    (case i_NoWord_NoLine => first | rfl | k_is)
    (case i_NoWord_NoModes => first | rfl | k_is)
    (case i_NoWord_NoPlace => first | rfl | k_is)
    (case i_NoWord_NoQuote => first | rfl | k_is)
    (case i_NoWord_NoShape => first | rfl | k_is)
    (case i_NoWord_NoTable => first | rfl | k_is)
    (case i_NoWord_NoText => first | rfl | k_is)
    (case i_NoWord_NoWord => first | rfl | k_is)
    (case i_NoWord_Stopped => first | rfl | k_is)
    (case i_NoWord_TooHeavy => first | rfl | k_is)
    (case i_NoWord_TooMany => first | rfl | k_is)
    (case i_NoWord_Unlike => first | rfl | k_is)
    (case i_NoWord_ValueError => first | rfl | k_is)
    (case a0 => k_is)
    (case l0 => k_is)
    (case b0 => k_is)
    (case k0 => k_is)
    (case a1 => k_is)
    (case l1 => k_is)
    (case b1 => k_is)
    (case k1 => k_is)
    (case a2 => k_is)
    (case l2 => k_is)
    (case b2 => k_is)
    (case k2 => k_is)
    (case a3 => k_is)
    (case l3 => k_is)
    (case b3 => k_is)
    (case k3 => k_is)
    (case a4 => k_is)
    (case l4 => k_is)
    (case b4 => k_is)
    (case k4 => k_is)
    (case a5 => k_is)
    (case l5 => k_is)
    (case b5 => k_is)
    (case k5 => k_is)
    (case a6 => k_is)
    (case l6 => k_is)
    (case b6 => k_is)
    (case k6 => k_is)
    (case a7 => k_is)
    (case l7 => k_is)
    (case b7 => k_is)
    (case k7 => k_is)
    (case a8 => k_is)
    (case l8 => k_is)
    (case b8 => k_is)
    (case k8 => k_is)
    (case a9 => k_is)
    (case l9 => k_is)
    (case b9 => k_is)
    (case k9 => k_is)
    (case a10 => k_is)
    (case l10 => k_is)
    (case b10 => k_is)
    (case k10 => k_is)
    (case a11 => k_is)
    (case l11 => k_is)
    (case b11 => k_is)
    (case k11 => k_is)
    (case a12 => k_is)
    (case l12 => k_is)
    (case b12 => k_is)
    (case k12 => k_is)
    (case a13 => k_is)
    (case l13 => k_is)
    (case b13 => k_is)
    (case k13 => k_is)
    (case a14 => k_is)
    (case l14 => k_is)
    (case b14 => k_is)
    (case k14 => k_is)
