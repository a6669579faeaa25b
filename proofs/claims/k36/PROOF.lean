import PyProof.Rows.All
import Wide.All
import OpenK.AllK
import Wide.FinOn
import HandS.ForMost
import HandS.ForExc
import HandS.Wide
import HandS.IsInst
import HandS.TupAny
import HandS.TupMul
import HandS.Style
import PyProof.StrOps2
import KE.DataEq
import HandS.NoneIn
import PyProof.ListStr
import PyProof.TupleOfStr
import HandS.Replace
import HandS.ExcIs
import HandS.SortInts
import HandS.WideMore
import KE.GoesNew
import KE.GoesEnumKw
import KE.DataCmp
import HandS.StrMore
import HandS.Deep
import PyProof.StrLawsLast
import HandS.RevRange
import PyProof.Rows.SetFrom
import PyProof.WalksMore
import PyProof.WalkInts
import PyProof.SeqI3
import HandS.More
import KE.KEqDict
import PySem.Challenge.RW_nearreach_k36_cuts_looked_at
set_option Elab.async false
set_option linter.all false
set_option maxRecDepth 100000
/-! The core: values as trees, mutable cells, what a reading does as a function. -/
namespace NR
open PySem PySem.Spec PyProof.Rows L2

abbrev DKey := Sum Int (List Nat)
/-- a value: a tree, or the number of a mutable cell -/
inductive D where
  | non | bl (b : Bool) | int (i : Int) | str (s : List Nat) | tup (l : List D) | ref (n : Nat) | exc (a : Nat)
  /-- a list, a dict that is never written any more -/
  | fl (l : List D) | fd (ks : List (Sum Int (List Nat))) (l : List D)
/-- a mutable cell -/
inductive Cell where
  | lst (xs : List D)
  | frz (xs : List D)
  | dk (kvs : List (DKey × D))
  | dt (kvs : List (List DKey × D))
  | ins (c : Str) (fs : List (Str × D))
abbrev IH := List Cell
abbrev EV := List (Option D)
/-- the written part, the classes by their names -/
structure Cf where
  K : PySem.W.Frag
  C : Str → Addr

def strV (s : List Nat) : Str := ⟨s.toArray⟩
def keyV : DKey → Key
  | .inl i => .inl i
  | .inr s => .inr (strV s)
theorem strV_inj {a b : List Nat} (h : strV a = strV b) : a = b := by
  have := congrArg (fun s : Str => s.cps.toList) h
  simpa [strV] using this
theorem strV_toList (s : Str) : strV s.cps.toList = s := by
  cases s; simp [strV]
theorem strV_length (s : List Nat) : (strV s).length = s.length := by
  show (strV s).cps.size = _
  simp [strV]

/-- a list that is never written -/
def FrzL (K : PySem.W.Frag) (H : Hp) (a : Addr) (xs : List V) : Prop :=
  (∃ o, H a = some (.frz o (.lst xs))) ∨
    ∃ (o : Obj) (its : Array Value) (n : Nat), K.lookup a = some o ∧ o.cls = .type "list" ∧ o.dict = none ∧ o.data = .seq its n ∧ its.size ≤ sizeLine ∧ Vals xs its.toList
/-- a list that is locked -/
def FrzM (H : Hp) (a : Addr) (xs : List V) : Prop := ∃ o, H a = some (.frz o (.lst xs))
/-- a dict that is never written -/
def FrzD (H : Hp) (a : Addr) (ws : List (Key × V)) : Prop := ∃ o, H a = some (.frz o (.dK ws))

/-- a tuple that stands in the heap -/
def TpT (H : Hp) (a : Addr) (vs : List V) : Prop := H a = some (.tup vs)

mutual
def Den (G : Cf) (et : List Addr) (H : Hp) : D → V → Prop
  | .non, v => v = .non
  | .bl b, v => v = .bl b
  | .int i, v => v = .int i
  | .str s, v => v = .str (strV s)
  | .tup l, v => ∃ a vs, v = .ref a ∧ TpT H a vs ∧ DenL G et H l vs
  | .ref n, v => ∃ a, et[n]? = some a ∧ v = .ref a
  | .exc a, v => v = .ref a
  | .fl l, v => ∃ a vs, v = .ref a ∧ FrzM H a vs ∧ DenL G et H l vs
  | .fd ks l, v => ∃ a ws, v = .ref a ∧ FrzD H a ws ∧ ws.map (·.1) = ks.map keyV ∧ DenL G et H l (ws.map (·.2))
def DenL (G : Cf) (et : List Addr) (H : Hp) : List D → List V → Prop
  | [], vs => vs = []
  | d :: ds, vs => ∃ v ws, vs = v :: ws ∧ Den G et H d v ∧ DenL G et H ds ws
end

mutual
def D.lo (n : Nat) : D → Bool
  | .tup l => D.loL n l
  | .fl l => D.loL n l
  | .fd _ l => D.loL n l
  | .ref m => decide (m < n)
  | _ => true
def D.loL (n : Nat) : List D → Bool
  | [] => true
  | d :: ds => D.lo n d && D.loL n ds
end

/-- what never changes stays -/
def Ext (H H' : Hp) : Prop := ∀ a o, H a = some o → ¬ Mut (some o) → H' a = some o
theorem Ext.refl (H : Hp) : Ext H H := fun _ _ h _ => h
theorem Ext.trans {H H1 H2 : Hp} (a : Ext H H1) (b : Ext H1 H2) : Ext H H2 := fun x o h m => b x o (a x o h m) m
theorem Ext.new {H : Hp} {p : Addr} {o : HO} (h : H p = none) : Ext H (upd H p o) := fun a u e _ => by
  rw [upd_ne (ne_of_none e h)]
  exact e
theorem Ext.mut {H : Hp} {p : Addr} {o u : HO} (h : H p = some u) (m : Mut (some u)) : Ext H (upd H p o) := fun a w e nm => by
  have : a ≠ p := fun z => by
    subst z
    rw [h] at e
    cases e
    exact nm m
  rw [upd_ne this]
  exact e
theorem Ext.sqT {K : PySem.W.Frag} {H H' : Hp} {a : Addr} {vs : List V} (e : Ext H H') (h : SqT K H a vs) : SqT K H' a vs := by
  rcases h with (h | ⟨o, h⟩) | h
  · exact .inl (.inl (e _ _ h (fun z => z)))
  · exact .inl (.inr ⟨o, e _ _ h (fun z => z)⟩)
  · exact .inr h

theorem TpT.ext {H H' : Hp} {a : Addr} {vs : List V} (e : Ext H H') (h : TpT H a vs) : TpT H' a vs := e _ _ h (fun z => z)
theorem TpT.sq {K : PySem.W.Frag} {H : Hp} {a : Addr} {vs : List V} (h : TpT H a vs) : SqT K H a vs := .inl (.inl h)
instance {K : PySem.W.Frag} {H : Hp} {a : Addr} {vs : List V} : Coe (TpT H a vs) (SqT K H a vs) := ⟨TpT.sq⟩
theorem FrzL.sq {K : PySem.W.Frag} {H : Hp} {a : Addr} {xs : List V} (h : FrzL K H a xs) : SqL K H a xs := by
  rcases h with ⟨o, h⟩ | h
  · exact .inl (.inr ⟨o, h⟩)
  · exact .inr h
theorem FrzL.ext {K : PySem.W.Frag} {H H' : Hp} {a : Addr} {xs : List V} (e : Ext H H') (h : FrzL K H a xs) : FrzL K H' a xs := by
  rcases h with ⟨o, h⟩ | h
  · exact .inl ⟨o, e _ _ h (fun z => z)⟩
  · exact .inr h

theorem FrzM.ext {H H' : Hp} {a : Addr} {ws : List V} (e : Ext H H') (h : FrzM H a ws) : FrzM H' a ws := by
  obtain ⟨o, h⟩ := h
  exact ⟨o, e _ _ h (fun z => z)⟩
theorem FrzM.rd {H : Hp} {a : Addr} {ws : List V} (h : FrzM H a ws) : Rd H a (.lst ws) := .inr h
theorem FrzM.sq {K : PySem.W.Frag} {H : Hp} {a : Addr} {ws : List V} (h : FrzM H a ws) : SqL K H a ws := .inl (.inr h)
theorem FrzM.frz {K : PySem.W.Frag} {H : Hp} {a : Addr} {ws : List V} (h : FrzM H a ws) : FrzL K H a ws := .inl h
theorem FrzD.ext {H H' : Hp} {a : Addr} {ws : List (Key × V)} (e : Ext H H') (h : FrzD H a ws) : FrzD H' a ws := by
  obtain ⟨o, h⟩ := h
  exact ⟨o, e _ _ h (fun z => z)⟩

mutual
theorem Den.mono {G : Cf} {et et' : List Addr} {H H' : Hp} (p : et <+: et') (e : Ext H H') : ∀ {d : D} {v : V}, Den G et H d v → Den G et' H' d v
  | .non, _, h => h
  | .bl _, _, h => h
  | .int _, _, h => h
  | .str _, _, h => h
  | .exc _, _, h => h
  | .tup l, _, h => by
    simp only [Den] at h ⊢
    obtain ⟨a, vs, e1, h1, h2⟩ := h
    exact ⟨a, vs, e1, h1.ext e, DenL.mono p e h2⟩
  | .fl l, _, h => by
    simp only [Den] at h ⊢
    obtain ⟨a, vs, e1, h1, h2⟩ := h
    exact ⟨a, vs, e1, h1.ext e, DenL.mono p e h2⟩
  | .fd ks l, _, h => by
    simp only [Den] at h ⊢
    obtain ⟨a, vs, e1, h1, h2, h3⟩ := h
    exact ⟨a, vs, e1, h1.ext e, h2, DenL.mono p e h3⟩
  | .ref n, _, h => by
    simp only [Den] at h ⊢
    obtain ⟨a, h1, h2⟩ := h
    obtain ⟨t, rfl⟩ := p
    refine ⟨a, ?_, h2⟩
    rw [List.getElem?_append_left]
    · exact h1
    · exact (List.getElem?_eq_some_iff.mp h1).1
theorem DenL.mono {G : Cf} {et et' : List Addr} {H H' : Hp} (p : et <+: et') (e : Ext H H') : ∀ {ds : List D} {vs : List V}, DenL G et H ds vs → DenL G et' H' ds vs
  | [], _, h => h
  | d :: ds, _, h => by
    simp only [DenL] at h ⊢
    obtain ⟨v, ws, e1, h1, h2⟩ := h
    exact ⟨v, ws, e1, Den.mono p e h1, DenL.mono p e h2⟩
end
mutual
theorem Den.back {G : Cf} {et et' : List Addr} {H : Hp} (p : et <+: et') : ∀ {d : D} {v : V}, D.lo et.length d = true → Den G et' H d v → Den G et H d v
  | .non, _, _, h => h
  | .bl _, _, _, h => h
  | .int _, _, _, h => h
  | .str _, _, _, h => h
  | .exc _, _, _, h => h
  | .tup l, _, b, h => by
    simp only [Den] at h ⊢
    obtain ⟨a, vs, e1, h1, h2⟩ := h
    exact ⟨a, vs, e1, h1, DenL.back p (by simpa [D.lo] using b) h2⟩
  | .fl l, _, b, h => by
    simp only [Den] at h ⊢
    obtain ⟨a, vs, e1, h1, h2⟩ := h
    exact ⟨a, vs, e1, h1, DenL.back p (by simpa [D.lo] using b) h2⟩
  | .fd ks l, _, b, h => by
    simp only [Den] at h ⊢
    obtain ⟨a, vs, e1, h1, h2, h3⟩ := h
    exact ⟨a, vs, e1, h1, h2, DenL.back p (by simpa [D.lo] using b) h3⟩
  | .ref n, _, b, h => by
    simp only [Den] at h ⊢
    obtain ⟨a, h1, h2⟩ := h
    obtain ⟨t, rfl⟩ := p
    have hn : n < et.length := by simpa [D.lo] using b
    refine ⟨a, ?_, h2⟩
    rw [List.getElem?_append_left hn] at h1
    exact h1
theorem DenL.back {G : Cf} {et et' : List Addr} {H : Hp} (p : et <+: et') : ∀ {ds : List D} {vs : List V}, D.loL et.length ds = true → DenL G et' H ds vs → DenL G et H ds vs
  | [], _, _, h => h
  | d :: ds, _, b, h => by
    simp only [DenL] at h ⊢
    obtain ⟨v, ws, e1, h1, h2⟩ := h
    simp only [D.loL, Bool.and_eq_true] at b
    exact ⟨v, ws, e1, Den.back p b.1 h1, DenL.back p b.2 h2⟩
end
mutual
/-- what is denoted refers only to cells that are there -/
theorem Den.lo {G : Cf} {et : List Addr} {H : Hp} : ∀ {d : D} {v : V}, Den G et H d v → D.lo et.length d = true
  | .non, _, _ => rfl
  | .bl _, _, _ => rfl
  | .int _, _, _ => rfl
  | .str _, _, _ => rfl
  | .exc _, _, _ => rfl
  | .tup l, _, h => by
    simp only [Den] at h
    obtain ⟨a, vs, e1, h1, h2⟩ := h
    simpa [D.lo] using DenL.lo h2
  | .fl l, _, h => by
    simp only [Den] at h
    obtain ⟨a, vs, e1, h1, h2⟩ := h
    simpa [D.lo] using DenL.lo h2
  | .fd ks l, _, h => by
    simp only [Den] at h
    obtain ⟨a, vs, e1, h1, h2, h3⟩ := h
    simpa [D.lo] using DenL.lo h3
  | .ref n, _, h => by
    simp only [Den] at h
    obtain ⟨a, h1, h2⟩ := h
    simpa [D.lo] using (List.getElem?_eq_some_iff.mp h1).1
theorem DenL.lo {G : Cf} {et : List Addr} {H : Hp} : ∀ {ds : List D} {vs : List V}, DenL G et H ds vs → D.loL et.length ds = true
  | [], _, _ => by simp [D.loL]
  | d :: ds, _, h => by
    simp only [DenL] at h
    obtain ⟨v, ws, e1, h1, h2⟩ := h
    simp [D.loL, Den.lo h1, DenL.lo h2]
end

/-- the pairs of a dict, of an instance -/
def DenK {κ κ' : Type} (f : κ → κ') (G : Cf) (et : List Addr) (H : Hp) (kvs : List (κ × D)) (ws : List (κ' × V)) : Prop :=
  ws.map (·.1) = kvs.map (fun p => f p.1) ∧ DenL G et H (kvs.map (·.2)) (ws.map (·.2))
theorem DenK.mono {κ κ' : Type} {f : κ → κ'} {G : Cf} {et et' : List Addr} {H H' : Hp} (p : et <+: et') (e : Ext H H') {kvs : List (κ × D)} {ws : List (κ' × V)} (h : DenK f G et H kvs ws) : DenK f G et' H' kvs ws := ⟨h.1, h.2.mono p e⟩

def CellOk (G : Cf) (et : List Addr) (H : Hp) (a : Addr) : Cell → Prop
  | .lst xs => ∃ vs, H a = some (.lst vs) ∧ DenL G et H xs vs
  | .frz xs => ∃ vs, FrzL G.K H a vs ∧ DenL G et H xs vs
  | .dk kvs => ∃ ws, H a = some (.dK ws) ∧ DenK keyV G et H kvs ws
  | .dt kvs => ∃ ws, H a = some (.dT ws) ∧ DenK (List.map keyV) G et H kvs ws
  | .ins c fs => ∃ dx ws, H a = some (.ins (G.C c) dx ws) ∧ DenK id G et H fs ws
def Cell.lo (n : Nat) : Cell → Bool
  | .lst xs => D.loL n xs
  | .frz xs => D.loL n xs
  | .dk kvs => D.loL n (kvs.map (·.2))
  | .dt kvs => D.loL n (kvs.map (·.2))
  | .ins _ fs => D.loL n (fs.map (·.2))
def Cell.isFrz : Cell → Bool
  | .frz _ => true
  | _ => false
structure HRel (G : Cf) (et : List Addr) (h : IH) (H : Hp) : Prop where
  len : et.length = h.length
  nd : ∀ (n m : Nat) (c c' : Cell) (a : Addr), h[n]? = some c → h[m]? = some c' → et[n]? = some a → et[m]? = some a → c.isFrz = false → c'.isFrz = false → n = m
  cell : ∀ (n : Nat) (c : Cell) (a : Addr), h[n]? = some c → et[n]? = some a → CellOk G et H a c

theorem CellOk.mono {G : Cf} {et et' : List Addr} {H H' : Hp} {a : Addr} (p : et <+: et') (e : Ext H H') (he : ∀ o, H a = some o → H' a = some o) {c : Cell} (h : CellOk G et H a c) : CellOk G et' H' a c := by
  cases c with
  | lst xs => obtain ⟨vs, h1, h2⟩ := h; exact ⟨vs, he _ h1, h2.mono p e⟩
  | frz xs => obtain ⟨vs, h1, h2⟩ := h; exact ⟨vs, h1.ext e, h2.mono p e⟩
  | dk kvs => obtain ⟨vs, h1, h2⟩ := h; exact ⟨vs, he _ h1, h2.mono p e⟩
  | dt kvs => obtain ⟨vs, h1, h2⟩ := h; exact ⟨vs, he _ h1, h2.mono p e⟩
  | ins c fs => obtain ⟨dx, vs, h1, h2⟩ := h; exact ⟨dx, vs, he _ h1, h2.mono p e⟩
theorem CellOk.back {G : Cf} {et et' : List Addr} {H : Hp} {a : Addr} (p : et <+: et') {c : Cell} (b : Cell.lo et.length c = true) (h : CellOk G et' H a c) : CellOk G et H a c := by
  cases c with
  | lst xs => obtain ⟨vs, h1, h2⟩ := h; exact ⟨vs, h1, h2.back p b⟩
  | frz xs => obtain ⟨vs, h1, h2⟩ := h; exact ⟨vs, h1, h2.back p b⟩
  | dk kvs => obtain ⟨vs, h1, h2⟩ := h; exact ⟨vs, h1, h2.1, h2.2.back p b⟩
  | dt kvs => obtain ⟨vs, h1, h2⟩ := h; exact ⟨vs, h1, h2.1, h2.2.back p b⟩
  | ins c fs => obtain ⟨dx, vs, h1, h2⟩ := h; exact ⟨dx, vs, h1, h2.1, h2.2.back p b⟩
theorem CellOk.lo {G : Cf} {et : List Addr} {H : Hp} {a : Addr} {c : Cell} (h : CellOk G et H a c) : Cell.lo et.length c = true := by
  cases c with
  | lst xs => obtain ⟨vs, h1, h2⟩ := h; exact h2.lo
  | frz xs => obtain ⟨vs, h1, h2⟩ := h; exact h2.lo
  | dk kvs => obtain ⟨vs, h1, h2⟩ := h; exact h2.2.lo
  | dt kvs => obtain ⟨vs, h1, h2⟩ := h; exact h2.2.lo
  | ins c fs => obtain ⟨dx, vs, h1, h2⟩ := h; exact h2.2.lo
/-- a cell stands in the heap, or is read only -/
theorem CellOk.some_or {G : Cf} {et : List Addr} {H : Hp} {a : Addr} {c : Cell} (h : CellOk G et H a c) : (∃ o, H a = some o) ∨ ∃ o, G.K.lookup a = some o := by
  cases c with
  | lst xs => obtain ⟨vs, h1, _⟩ := h; exact .inl ⟨_, h1⟩
  | frz xs =>
    obtain ⟨vs, ⟨o, h1⟩ | ⟨o, _, _, h1, _⟩, _⟩ := h
    · exact .inl ⟨_, h1⟩
    · exact .inr ⟨_, h1⟩
  | dk kvs => obtain ⟨vs, h1, _⟩ := h; exact .inl ⟨_, h1⟩
  | dt kvs => obtain ⟨vs, h1, _⟩ := h; exact .inl ⟨_, h1⟩
  | ins c fs => obtain ⟨dx, vs, h1, _⟩ := h; exact .inl ⟨_, h1⟩

section
variable {G : Cf} {et et' : List Addr} {H H' : Hp} {h h' : IH}
theorem HRel.addr (R : HRel G et h H) {n : Nat} {c : Cell} (e : h[n]? = some c) : ∃ a, et[n]? = some a := by
  have : n < h.length := (List.getElem?_eq_some_iff.mp e).1
  exact ⟨et[n]'(by rw [R.len]; exact this), List.getElem?_eq_getElem _⟩
theorem HRel.cellAt (R : HRel G et h H) {n : Nat} {a : Addr} (e : et[n]? = some a) : ∃ c, h[n]? = some c ∧ CellOk G et H a c := by
  have l : n < h.length := by rw [← R.len]; exact (List.getElem?_eq_some_iff.mp e).1
  exact ⟨h[n], List.getElem?_eq_getElem l, R.cell n _ a (List.getElem?_eq_getElem l) e⟩
theorem CellOk.there {a : Addr} {c : Cell} (f : c.isFrz = false) (x : CellOk G et H a c) : ∃ o, H a = some o := by
  cases c with
  | lst xs => obtain ⟨vs, h1, _⟩ := x; exact ⟨_, h1⟩
  | frz xs => cases f
  | dk kvs => obtain ⟨vs, h1, _⟩ := x; exact ⟨_, h1⟩
  | dt kvs => obtain ⟨vs, h1, _⟩ := x; exact ⟨_, h1⟩
  | ins c fs => obtain ⟨dx, vs, h1, _⟩ := x; exact ⟨_, h1⟩
/-- nothing of the cells is touched -/
theorem HRel.keep (R : HRel G et h H) (e : Ext H H') (k : ∀ (n : Nat) (a : Addr) (o : HO), et[n]? = some a → H a = some o → H' a = some o) : HRel G et h H' :=
  ⟨R.len, R.nd, fun n c a h1 h2 => (R.cell n c a h1 h2).mono List.prefix_rfl e (fun o => k n a o h2)⟩
/-- a new immutable object -/
theorem HRel.new (R : HRel G et h H) {p : Addr} {o : HO} (hp : H p = none) : HRel G et h (upd H p o) :=
  R.keep (Ext.new hp) fun n a u _ e => by rw [upd_ne (ne_of_none e hp)]; exact e
/-- a new cell -/
theorem HRel.push (R : HRel G et h H) {p : Addr} {o : HO} {c : Cell} (hp : H p = none) (hc : CellOk G (et ++ [p]) (upd H p o) p c) : HRel G (et ++ [p]) (h ++ [c]) (upd H p o) := by
  have pf : et <+: et ++ [p] := List.prefix_append _ _
  have old : ∀ {n : Nat} {c' : Cell}, (h ++ [c])[n]? = some c' → (n < h.length ∧ h[n]? = some c') ∨ (n = h.length ∧ c' = c) := fun {n c'} e => by
    by_cases hn : n < h.length
    · rw [List.getElem?_append_left hn] at e
      exact .inl ⟨hn, e⟩
    · rw [List.getElem?_append_right (by omega)] at e
      have : n - h.length = 0 := by
        have := (List.getElem?_eq_some_iff.mp e).1
        simp at this
        omega
      rw [this] at e
      simp at e
      exact .inr ⟨by omega, e.symm⟩
  have oldA : ∀ {n : Nat} {a : Addr}, n < h.length → (et ++ [p])[n]? = some a → et[n]? = some a := fun {n a} hn e => by
    rw [List.getElem?_append_left (by rw [R.len]; exact hn)] at e
    exact e
  have newA : ∀ {a : Addr}, (et ++ [p])[h.length]? = some a → a = p := fun {a} e => by
    rw [List.getElem?_append_right (by rw [R.len]; exact Nat.le_refl _), R.len, Nat.sub_self] at e
    simp at e
    exact e.symm
  refine ⟨by simp [R.len], fun n m c1 c2 a h1 h2 h3 h4 f1 f2 => ?_, fun n c1 a h1 h2 => ?_⟩
  · rcases old h1 with ⟨l1, g1⟩ | ⟨l1, rfl⟩
    · rcases old h2 with ⟨l2, g2⟩ | ⟨l2, rfl⟩
      · exact R.nd n m c1 c2 a g1 g2 (oldA l1 h3) (oldA l2 h4) f1 f2
      · rw [l2] at h4
        have ea := newA h4
        obtain ⟨o', ho⟩ := (R.cell n c1 a g1 (oldA l1 h3)).there f1
        rw [ea, hp] at ho
        cases ho
    · rcases old h2 with ⟨l2, g2⟩ | ⟨l2, rfl⟩
      · rw [l1] at h3
        have ea := newA h3
        obtain ⟨o', ho⟩ := (R.cell m c2 a g2 (oldA l2 h4)).there f2
        rw [ea, hp] at ho
        cases ho
      · rw [l1, l2]
  · rcases old h1 with ⟨l1, g1⟩ | ⟨l1, rfl⟩
    · refine (R.cell n c1 a g1 (oldA l1 h2)).mono pf (Ext.new hp) fun u e => ?_
      rw [upd_ne (ne_of_none e hp)]
      exact e
    · rw [l1] at h2
      rw [newA h2]
      exact hc
/-- a cell is written -/
theorem HRel.set (R : HRel G et h H) {n : Nat} {a : Addr} {o u : HO} {c c' : Cell} (hn : h[n]? = some c) (ha : et[n]? = some a) (f : c.isFrz = false) (ho : H a = some o) (mu : Mut (some o))
    (hc : CellOk G et (upd H a u) a c') : HRel G et (h.set n c') (upd H a u) := by
  have ex : Ext H (upd H a u) := Ext.mut ho mu
  have ln : n < h.length := (List.getElem?_eq_some_iff.mp hn).1
  refine ⟨by simp [R.len], fun i j c1 c2 b h1 h2 h3 h4 f1 f2 => ?_, fun i c1 b h1 h2 => ?_⟩
  · by_cases hi : i = n
    · by_cases hj : j = n
      · rw [hi, hj]
      · rw [List.getElem?_set_ne (Ne.symm hj)] at h2
        rw [hi] at h3
        rw [ha] at h3
        cases h3
        exact hi.trans (R.nd n j c c2 a hn h2 ha h4 f f2)
    · rw [List.getElem?_set_ne (Ne.symm hi)] at h1
      by_cases hj : j = n
      · rw [hj, ha] at h4
        cases h4
        exact (R.nd i n c1 c a h1 hn h3 ha f1 f).trans hj.symm
      · rw [List.getElem?_set_ne (Ne.symm hj)] at h2
        exact R.nd i j c1 c2 b h1 h2 h3 h4 f1 f2
  · by_cases hi : i = n
    · subst hi
      rw [ha] at h2
      cases h2
      rw [List.getElem?_set_self ln] at h1
      cases h1
      exact hc
    · rw [List.getElem?_set_ne (Ne.symm hi)] at h1
      have old := R.cell i c1 b h1 h2
      cases hf : c1.isFrz with
      | false =>
        have nb : b ≠ a := fun z => by
          subst z
          exact hi (R.nd i n c1 c b h1 hn h2 ha hf f)
        exact old.mono List.prefix_rfl ex fun w e => by rw [upd_ne nb]; exact e
      | true =>
        cases c1 with
        | frz xs =>
          obtain ⟨vs, h5, h6⟩ := old
          exact ⟨vs, h5.ext ex, h6.mono List.prefix_rfl ex⟩
        | _ => cases hf
end
end NR

set_option Elab.async false
set_option linter.all false
set_option maxRecDepth 100000
/-! What syntax does, as a function: the judgement, the rules. -/
namespace NR
open PySem PySem.Spec PyProof.Rows L2

abbrev XF := Option (List (Str × D))
/-- an outcome: a value, an exception, nothing is said -/
inductive R (A : Type) where
  | ok (a : A) (h : IH)
  | ex (c : Str) (d : XF) (h : IH)
  | no
def R.bind {A B : Type} (r : R A) (k : A → IH → R B) : R B :=
  match r with
  | .ok a h => k a h
  | .ex c d h => .ex c d h
  | .no => .no
inductive RS where
  | nx (e : EV) (h : IH) | rt (d : D) (h : IH) | bk (e : EV) (h : IH) | ct (e : EV) (h : IH)
  | ex (c : Str) (d : XF) (e : EV) (h : IH) | no
def R.bindS {A : Type} (r : R A) (env : EV) (k : A → IH → RS) : RS :=
  match r with
  | .ok a h => k a h
  | .ex c d h => .ex c d env h
  | .no => .no
abbrev ME := EV → IH → R D
abbrev MT := EV → IH → R Bool
abbrev MA := EV → IH → R (List D)
abbrev MS := EV → IH → RS
abbrev MF := List D → IH → R D

def ExOk (G : Cf) (et : List Addr) (H : Hp) (c : Str) (d : XF) (cls : Value) (dd : Option Addr) : Prop :=
  cls = .ref (G.C c) ∧ match d with
    | none => dd = none
    | some fs => ∃ a ws, dd = some a ∧ H a = some (.xd ws) ∧ DenK id G et H fs ws

def Pst {A : Type} (G : Cf) (et : List Addr) (H : Hp) (r : R A) (F : List Addr → Hp → IH → A → Prop) (W : Value → Option Addr → Hp → Prop) : Prop :=
  match r with
  | .ok a h' => ∀ et' H', et <+: et' → Ext H H' → HRel G et' h' H' → F et' H' h' a
  | .ex c d h' => ∀ et' H' cls dd, et <+: et' → Ext H H' → HRel G et' h' H' → ExOk G et' H' c d cls dd → W cls dd H'
  | .no => False
section
variable {G : Cf} {et et' : List Addr} {H H' : Hp} {h h' : IH} {A B : Type}
theorem Pst.of_bind {r : R A} {k : A → IH → R B} {F : List Addr → Hp → IH → B → Prop} {W : Value → Option Addr → Hp → Prop} (x : Pst G et H (r.bind k) F W) :
    Pst G et H r (fun et1 H1 h1 a => Pst G et1 H1 (k a h1) F W) W := by
  cases r with
  | ok a h1 =>
    intro et1 H1 p e hr
    show Pst G et1 H1 (k a h1) F W
    have y : Pst G et H (k a h1) F W := x
    cases hk : k a h1 with
    | ok b h2 => rw [hk] at y; exact fun et2 H2 p2 e2 hr2 => y et2 H2 (p.trans p2) (e.trans e2) hr2
    | ex c d h2 => rw [hk] at y; exact fun et2 H2 cls dd p2 e2 hr2 => y et2 H2 cls dd (p.trans p2) (e.trans e2) hr2
    | no => rw [hk] at y; exact y
  | ex c d h1 => exact x
  | no => exact x
theorem Pst.imp {r : R A} {F F' : List Addr → Hp → IH → A → Prop} {W : Value → Option Addr → Hp → Prop} (x : Pst G et H r F W)
    (k : ∀ et' H' h' a, et <+: et' → Ext H H' → HRel G et' h' H' → F et' H' h' a → F' et' H' h' a) : Pst G et H r F' W := by
  cases r with
  | ok a h1 => exact fun et1 H1 p e hr => k et1 H1 h1 a p e hr (x et1 H1 p e hr)
  | ex c d h1 => exact x
  | no => exact x
theorem Pst.weak {r : R A} {F : List Addr → Hp → IH → A → Prop} {W : Value → Option Addr → Hp → Prop} (p : et <+: et') (e : Ext H H') (x : Pst G et H r F W) : Pst G et' H' r F W := by
  cases r with
  | ok a h1 => exact fun et1 H1 p1 e1 hr => x et1 H1 (p.trans p1) (e.trans e1) hr
  | ex c d h1 => exact fun et1 H1 cls dd p1 e1 hr => x et1 H1 cls dd (p.trans p1) (e.trans e1) hr
  | no => exact x
end

/-- the slots hold the values -/
def EnvR (G : Cf) (et : List Addr) (H : Hp) (env : EV) (σ : L2.St) : Prop :=
  env.length = σ.length ∧ ∀ (i : Nat) (d : D), env[i]? = some (some d) → ∃ v, σ[i]? = some (some v) ∧ Den G et H d v
section
variable {G : Cf} {et et' : List Addr} {H H' : Hp} {h h' : IH} {A B : Type} {env : EV} {σ : L2.St}
theorem EnvR.mono (p : et <+: et') (e : Ext H H') (x : EnvR G et H env σ) : EnvR G et' H' env σ :=
  ⟨x.1, fun i d q => let ⟨v, a, b⟩ := x.2 i d q; ⟨v, a, b.mono p e⟩⟩
theorem EnvR.set (x : EnvR G et H env σ) (i : Nat) {d : D} {v : V} (r : Den G et H d v) : EnvR G et H (env.set i (some d)) (σ.set i (some v)) := by
  refine ⟨by simp [x.1], fun j d' q => ?_⟩
  by_cases hj : j = i
  · subst hj
    by_cases hl : j < env.length
    · rw [List.getElem?_set_self hl] at q
      cases q
      exact ⟨v, by rw [List.getElem?_set_self (by rw [← x.1]; exact hl)], r⟩
    · rw [List.set_eq_of_length_le (by omega)] at q
      have := (List.getElem?_eq_some_iff.mp q).1
      exact absurd this hl
  · rw [List.getElem?_set_ne (Ne.symm hj)] at q
    obtain ⟨w, a, b⟩ := x.2 j d' q
    exact ⟨w, by rw [List.getElem?_set_ne (Ne.symm hj)]; exact a, b⟩
end

def tE (G : Cf) (W : WX) (m : ME) : TE := fun σ H Q => ∃ et env h, EnvR G et H env σ ∧ HRel G et h H ∧
  Pst G et H (m env h) (fun et' H' _ d => ∀ v, Den G et' H' d v → Q v H') (fun c d H' => W c d σ H')
def tT (G : Cf) (W : WX) (m : MT) : TT := fun σ H Q => ∃ et env h, EnvR G et H env σ ∧ HRel G et h H ∧
  Pst G et H (m env h) (fun _ H' _ b => Q b H') (fun c d H' => W c d σ H')
def tA (G : Cf) (W : WX) (m : MA) : TA := fun σ H Q => ∃ et env h, EnvR G et H env σ ∧ HRel G et h H ∧
  Pst G et H (m env h) (fun et' H' _ ds => ∀ vs, DenL G et' H' ds vs → Q vs H') (fun c d H' => W c d σ H')
def PstS (G : Cf) (et : List Addr) (H : Hp) (r : RS) (D : Ends) (W : WX) : Prop :=
  match r with
  | .nx env' h' => ∀ et' H' σ', et <+: et' → Ext H H' → HRel G et' h' H' → EnvR G et' H' env' σ' → D.nx σ' H'
  | .bk env' h' => ∀ et' H' σ', et <+: et' → Ext H H' → HRel G et' h' H' → EnvR G et' H' env' σ' → D.bk σ' H'
  | .ct env' h' => ∀ et' H' σ', et <+: et' → Ext H H' → HRel G et' h' H' → EnvR G et' H' env' σ' → D.ct σ' H'
  | .rt d h' => ∀ et' H' v, et <+: et' → Ext H H' → HRel G et' h' H' → Den G et' H' d v → D.rt v H'
  | .ex c d env' h' => ∀ et' H' σ' cls dd, et <+: et' → Ext H H' → HRel G et' h' H' → EnvR G et' H' env' σ' → ExOk G et' H' c d cls dd → W cls dd σ' H'
  | .no => False
def tS (G : Cf) (W : WX) (m : MS) : TS := fun D σ H => ∃ et env h, EnvR G et H env σ ∧ HRel G et h H ∧ PstS G et H (m env h) D W

theorem PE.imp {X : Cx} {e : Expr} {t t' : TE} (h : PE X e t) (k : ∀ σ H Q, t' σ H Q → t σ H Q) : PE X e t' := ⟨fun pins s σ H Q I x => h.run pins s σ H Q I (k σ H Q x)⟩
theorem PT.imp {X : Cx} {e : Expr} {t t' : TT} (h : PT X e t) (k : ∀ σ H Q, t' σ H Q → t σ H Q) : PT X e t' := ⟨fun pins s σ H Q I x => h.run pins s σ H Q I (k σ H Q x)⟩
theorem PW.imp {X : Cx} {e : Expr} {t t' : TT} (h : PW X e t) (k : ∀ σ H Q, t' σ H Q → t σ H Q) : PW X e t' := ⟨fun wh pins s σ H Q I x => h.run wh pins s σ H Q I (k σ H Q x)⟩
theorem PA.imp {X : Cx} {e : List Expr} {t t' : TA} (h : PA X e t) (k : ∀ σ H Q, t' σ H Q → t σ H Q) : PA X e t' := ⟨fun pos pins s σ H Q I x => h.run pos pins s σ H Q I (k σ H Q x)⟩
theorem PS.imp {X : Cx} {e : Stmt} {t t' : TS} (h : PS X e t) (k : ∀ D σ H, t' D σ H → t D σ H) : PS X e t' := ⟨fun pins s σ H D I x => h.run pins s σ H D I (k D σ H x)⟩
theorem PSs.imp {X : Cx} {e : List Stmt} {t t' : TS} (h : PSs X e t) (k : ∀ D σ H, t' D σ H → t D σ H) : PSs X e t' := ⟨fun pins s σ H D I x => h.run pins s σ H D I (k D σ H x)⟩

section
variable {G : Cf} {W : WX} {σ : L2.St} {H : Hp} {A B : Type}
/-- two in a row -/
theorem tE.bind {m : ME} {k : EV → D → IH → R D} {Q : VK} (x : tE G W (fun env h => (m env h).bind (k env)) σ H Q) :
    tE G W m σ H fun v H1 => ∃ et1 env h1 d, EnvR G et1 H1 env σ ∧ HRel G et1 h1 H1 ∧ Den G et1 H1 d v ∧ Pst G et1 H1 (k env d h1) (fun et' H' _ d => ∀ v, Den G et' H' d v → Q v H') (fun c d H' => W c d σ H') := by
  obtain ⟨et, env, h, hE, hH, hP⟩ := x
  exact ⟨et, env, h, hE, hH, (Pst.of_bind hP).imp fun et1 H1 h1 a p e hr q v hv => ⟨et1, env, h1, a, hE.mono p e, hr, hv, q⟩⟩
end

/-! ### names, constants -/
def mVar (i : Nat) : ME := fun env h => match env[i]? with
  | some (some d) => .ok d h
  | _ => .no
def mC (d : D) : ME := fun _ h => .ok d h
section
variable {X : Cx} {G : Cf} {W : WX}
theorem me_var (i : Nat) {x : Str} {pos : Pos} (hN : X.N[i]? = some x := by rfl) (hv : Vis X.env.scope x := by first | exact Or.inl rfl | exact Or.inr (Or.inl rfl) | exact Or.inr (Or.inr rfl)) (hd : (x == ("__debug__" : Str)) = false := by decide)
    (hcd : (x == ("__classdict__" : Str)) = false := by decide) : PE X (.Name x pos) (tE G W (mVar i)) :=
  PE.imp (pe_var hN hv hd hcd) fun σ H Q ⟨et, env, h, hE, hH, hP⟩ => by
    unfold mVar at hP
    split at hP
    · rename_i d hd
      obtain ⟨v, e1, r⟩ := hE.2 i d hd
      exact ⟨v, e1, hP et H List.prefix_rfl (Ext.refl H) hH v r⟩
    · exact hP.elim
theorem tE.const {d : D} {v : V} {σ : L2.St} {H : Hp} {Q : VK} (x : tE G W (mC d) σ H Q) (r : ∀ et, Den G et H d v) : Q v H := by
  obtain ⟨et, env, h, hE, hH, hP⟩ := x
  exact hP et H List.prefix_rfl (Ext.refl H) hH v (r et)
theorem me_int {i j pos} : PE X (.Constant (.int i) j pos) (tE G W (mC (.int i))) := PE.imp pe_int fun _ _ _ x => x.const (v := .int i) fun et => by simp [Den]
theorem me_bl {b j pos} : PE X (.Constant (.bool b) j pos) (tE G W (mC (.bl b))) := PE.imp pe_bl fun _ _ _ x => x.const (v := .bl b) fun et => by simp [Den]
theorem me_non {j pos} : PE X (.Constant .none j pos) (tE G W (mC .non)) := PE.imp pe_non fun _ _ _ x => x.const (v := .non) fun et => by simp [Den]
theorem me_str {x : Str} {j pos} (s : List Nat) (e : strV s = x := by decide +kernel) : PE X (.Constant (.str x) j pos) (tE G W (mC (.str s))) := PE.imp pe_str fun _ _ _ y => y.const (v := .str x) fun et => by simp [Den, e]
/-- a module's constant that is a number or a text -/
def OfC : D → Value → Prop
  | .int i, u => ∃ t, u = .int i t
  | .str s, u => ∃ t, u = .str (strV s) t
  | _, _ => False
theorem me_glob {x : Str} {u : Value} {pos : Pos} (d : D) (r : OfC d u) (hm : X.mg x = some u) (hg : Gl X x := by rfl) (hd : (x == ("__debug__" : Str)) = false := by decide) : PE X (.Name x pos) (tE G W (mC d)) := by
  cases d with
  | int i => exact PE.imp (pe_glob (v := .int i) hg hm r hd) fun _ _ _ y => y.const (v := .int i) fun et => by simp [Den]
  | str s => exact PE.imp (pe_glob (v := .str (strV s)) hg hm r hd) fun _ _ _ y => y.const (v := .str (strV s)) fun et => by simp [Den]
  | _ => exact r.elim
end

/-! ### operators by values -/
/-- f on trees is what the rule r asks -/
def OpS (G : Cf) (r : R2) (f : D → D → IH → R D) : Prop := ∀ (et : List Addr) (H : Hp) (h : IH) (x y : D) (v w : V) (W : Value → Option Addr → Hp → Prop) (Q : VK), Den G et H x v → Den G et H y w → HRel G et h H →
  Pst G et H (f x y h) (fun et' H' _ d => ∀ v, Den G et' H' d v → Q v H') W → r v w H Q
def mOp (f : D → D → IH → R D) (a b : ME) : ME := fun env h => (a env h).bind fun x h1 => (b env h1).bind fun y h2 => f x y h2
section
variable {X : Cx} {G : Cf} {W : WX} {a b e : Expr} {ma mb mc : ME} {pos : Pos} {r : R2} {f : D → D → IH → R D}
theorem tOp_of {σ : L2.St} {H : Hp} {Q : VK} (hs : OpS G r f) (x : tE G W (mOp f ma mb) σ H Q) : tOp r (tE G W ma) (tE G W mb) σ H Q := by
  obtain ⟨et, env, h, hE, hH, hP⟩ := x
  refine ⟨et, env, h, hE, hH, (Pst.of_bind hP).imp fun et1 H1 h1 x p e hr q v hv => ?_⟩
  refine ⟨et1, env, h1, hE.mono p e, hr, (Pst.of_bind q).imp fun et2 H2 h2 y p2 e2 hr2 q2 w hw => ?_⟩
  exact hs et2 H2 h2 x y v w _ Q (hv.mono p2 e2) hw hr2 q2
theorem me_op {op : Operator} (ho : OpR X (binaryOp op) r) (hs : OpS G r f) (ha : PE X a (tE G W ma)) (hb : PE X b (tE G W mb)) : PE X (.BinOp a op b pos) (tE G W (mOp f ma mb)) :=
  PE.imp (pe_op ho ha hb) fun _ _ _ x => tOp_of hs x
theorem me_cmp {op : CmpOp} (ho : OpR X (compareOp op) r) (hs : OpS G r f) (ha : PE X a (tE G W ma)) (hb : PE X b (tE G W mb)) (hm : behindInMarks op b = false := by first | exact nomark _ | rfl) : PE X (.Compare a [op] [b] pos) (tE G W (mOp f ma mb)) :=
  PE.imp (pe_cmpR ho ha hb hm) fun _ _ _ x => tOp_of hs x
end
#check @nomark
#check @pe_cmpR
#check @pt_truth
#check @pt_cmpR
end NR

set_option Elab.async false
set_option linter.all false
set_option maxRecDepth 100000
/-! Operators. -/
namespace NR
open PySem PySem.Spec PyProof.Rows L2

theorem sz {n : Nat} (h : n ≤ 10000000) : n ≤ sizeLine := by rw [sizeLine_eq]; omega
section
variable {G : Cf} {et : List Addr} {H : Hp} {v : V}
@[simp] theorem den_non : Den G et H .non v ↔ v = .non := by simp [Den]
@[simp] theorem den_bl {b : Bool} : Den G et H (.bl b) v ↔ v = .bl b := by simp [Den]
@[simp] theorem den_int {i : Int} : Den G et H (.int i) v ↔ v = .int i := by simp [Den]
@[simp] theorem den_str {s : List Nat} : Den G et H (.str s) v ↔ v = .str (strV s) := by simp [Den]
@[simp] theorem den_tup {l : List D} : Den G et H (.tup l) v ↔ ∃ a vs, v = .ref a ∧ TpT H a vs ∧ DenL G et H l vs := by simp [Den]
@[simp] theorem den_ref {n : Nat} : Den G et H (.ref n) v ↔ ∃ a, et[n]? = some a ∧ v = .ref a := by simp [Den]
@[simp] theorem den_fl {l : List D} : Den G et H (.fl l) v ↔ ∃ a vs, v = .ref a ∧ FrzM H a vs ∧ DenL G et H l vs := by simp [Den]
@[simp] theorem den_fd {ks : List DKey} {l : List D} : Den G et H (.fd ks l) v ↔ ∃ a ws, v = .ref a ∧ FrzD H a ws ∧ ws.map (·.1) = ks.map keyV ∧ DenL G et H l (ws.map (·.2)) := by simp [Den]
@[simp] theorem denL_nil {vs : List V} : DenL G et H [] vs ↔ vs = [] := by simp [DenL]
@[simp] theorem denL_cons {d : D} {ds : List D} {vs : List V} : DenL G et H (d :: ds) vs ↔ ∃ v ws, vs = v :: ws ∧ Den G et H d v ∧ DenL G et H ds ws := by simp [DenL]
theorem DenL.len : ∀ {ds : List D} {vs : List V}, DenL G et H ds vs → vs.length = ds.length
  | [], _, h => by rw [denL_nil] at h; rw [h]; rfl
  | d :: ds, _, h => by
    obtain ⟨v, ws, rfl, _, h2⟩ := denL_cons.mp h
    simp [DenL.len h2]
theorem DenL.get : ∀ {ds : List D} {vs : List V} {i : Nat} {d : D}, DenL G et H ds vs → ds[i]? = some d → ∃ v, vs[i]? = some v ∧ Den G et H d v
  | [], _, _, _, _, e => by simp at e
  | d :: ds, _, i, d', h, e => by
    obtain ⟨v, ws, rfl, h1, h2⟩ := denL_cons.mp h
    cases i with
    | zero => simp at e; subst e; exact ⟨v, by simp, h1⟩
    | succ i => obtain ⟨u, a, b⟩ := DenL.get (i := i) h2 (by simpa using e); exact ⟨u, by simpa using a, b⟩
theorem DenL.get' : ∀ {ds : List D} {vs : List V} {i : Nat} {v : V}, DenL G et H ds vs → vs[i]? = some v → ∃ d, ds[i]? = some d ∧ Den G et H d v
  | [], _, _, _, h, e => by rw [denL_nil] at h; subst h; simp at e
  | d :: ds, _, i, v', h, e => by
    obtain ⟨v, ws, rfl, h1, h2⟩ := denL_cons.mp h
    cases i with
    | zero => simp at e; subst e; exact ⟨d, by simp, h1⟩
    | succ i => obtain ⟨u, a, b⟩ := DenL.get' (i := i) h2 (by simpa using e); exact ⟨u, by simpa using a, b⟩
theorem DenL.app : ∀ {ds es : List D} {vs ws : List V}, DenL G et H ds vs → DenL G et H es ws → DenL G et H (ds ++ es) (vs ++ ws)
  | [], _, _, _, h, k => by rw [denL_nil] at h; subst h; exact k
  | d :: ds, _, _, _, h, k => by
    obtain ⟨v, ws, rfl, h1, h2⟩ := denL_cons.mp h
    exact denL_cons.mpr ⟨v, _, rfl, h1, DenL.app h2 k⟩
theorem DenL.take : ∀ (n : Nat) {ds : List D} {vs : List V}, DenL G et H ds vs → DenL G et H (ds.take n) (vs.take n)
  | 0, _, _, _ => by simp
  | n + 1, [], _, h => by rw [denL_nil] at h; subst h; simp
  | n + 1, d :: ds, _, h => by
    obtain ⟨v, ws, rfl, h1, h2⟩ := denL_cons.mp h
    exact denL_cons.mpr ⟨v, _, rfl, h1, DenL.take n h2⟩
theorem DenL.drop : ∀ (n : Nat) {ds : List D} {vs : List V}, DenL G et H ds vs → DenL G et H (ds.drop n) (vs.drop n)
  | 0, _, _, h => by simpa using h
  | n + 1, [], _, h => by rw [denL_nil] at h; subst h; simp
  | n + 1, d :: ds, _, h => by
    obtain ⟨v, ws, rfl, h1, h2⟩ := denL_cons.mp h
    simpa using DenL.drop n h2
theorem DenL.set : ∀ {ds : List D} {vs : List V} (i : Nat) {d : D} {v : V}, DenL G et H ds vs → Den G et H d v → DenL G et H (ds.set i d) (vs.set i v)
  | [], _, _, _, _, h, _ => by rw [denL_nil] at h; subst h; simp
  | d :: ds, _, i, d', v', h, k => by
    obtain ⟨v, ws, rfl, h1, h2⟩ := denL_cons.mp h
    cases i with
    | zero => exact denL_cons.mpr ⟨_, _, rfl, k, h2⟩
    | succ i => exact denL_cons.mpr ⟨_, _, rfl, h1, DenL.set i h2 k⟩
theorem DenL.ints : ∀ {ns : List Int} {vs : List V}, DenL G et H (ns.map D.int) vs → vs = ns.map V.int
  | [], _, h => by simpa using h
  | n :: ns, _, h => by
    obtain ⟨v, ws, rfl, h1, h2⟩ := denL_cons.mp h
    rw [den_int.mp h1, DenL.ints h2]; rfl
theorem DenL.bls : ∀ {ns : List Bool} {vs : List V}, DenL G et H (ns.map D.bl) vs → vs = ns.map V.bl
  | [], _, h => by simpa using h
  | n :: ns, _, h => by
    obtain ⟨v, ws, rfl, h1, h2⟩ := denL_cons.mp h
    rw [den_bl.mp h1, DenL.bls h2]; rfl
theorem DenL.strs : ∀ {ns : List (List Nat)} {vs : List V}, DenL G et H (ns.map D.str) vs → vs = (ns.map strV).map V.str
  | [], _, h => by simpa using h
  | n :: ns, _, h => by
    obtain ⟨v, ws, rfl, h1, h2⟩ := denL_cons.mp h
    rw [den_str.mp h1, DenL.strs h2]; rfl
theorem DenL.ofInts : ∀ {ns : List Int}, DenL G et H (ns.map D.int) (ns.map V.int)
  | [] => by simp
  | n :: ns => denL_cons.mpr ⟨_, _, rfl, by simp, DenL.ofInts⟩
theorem DenL.ofStrs : ∀ {ns : List (List Nat)}, DenL G et H (ns.map D.str) ((ns.map strV).map V.str)
  | [] => by simp
  | n :: ns => denL_cons.mpr ⟨_, _, rfl, by simp, DenL.ofStrs⟩
end

/-- all of a list are of a kind -/
def allM {A : Type} (f : D → Option A) : List D → Option (List A)
  | [] => some []
  | d :: ds => match f d, allM f ds with
    | some a, some as => some (a :: as)
    | _, _ => none
def D.int? : D → Option Int
  | .int i => some i
  | _ => none
def D.bl? : D → Option Bool
  | .bl i => some i
  | _ => none
def D.str? : D → Option (List Nat)
  | .str i => some i
  | _ => none
theorem allM_ints : ∀ {ds : List D} {ns : List Int}, allM D.int? ds = some ns → ds = ns.map D.int
  | [], _, h => by simp [allM] at h; subst h; rfl
  | d :: ds, ns, h => by
    unfold allM at h
    cases e1 : D.int? d with
    | none => rw [e1] at h; simp at h
    | some a =>
      cases e2 : allM D.int? ds with
      | none => rw [e1, e2] at h; simp at h
      | some as =>
        rw [e1, e2] at h
        simp at h
        subst h
        rw [allM_ints e2]
        cases d <;> simp [D.int?] at e1
        subst e1
        rfl
theorem allM_bls : ∀ {ds : List D} {ns : List Bool}, allM D.bl? ds = some ns → ds = ns.map D.bl
  | [], _, h => by simp [allM] at h; subst h; rfl
  | d :: ds, ns, h => by
    unfold allM at h
    cases e1 : D.bl? d with
    | none => rw [e1] at h; simp at h
    | some a =>
      cases e2 : allM D.bl? ds with
      | none => rw [e1, e2] at h; simp at h
      | some as =>
        rw [e1, e2] at h
        simp at h
        subst h
        rw [allM_bls e2]
        cases d <;> simp [D.bl?] at e1
        subst e1
        rfl
theorem allM_strs : ∀ {ds : List D} {ns : List (List Nat)}, allM D.str? ds = some ns → ds = ns.map D.str
  | [], _, h => by simp [allM] at h; subst h; rfl
  | d :: ds, ns, h => by
    unfold allM at h
    cases e1 : D.str? d with
    | none => rw [e1] at h; simp at h
    | some a =>
      cases e2 : allM D.str? ds with
      | none => rw [e1, e2] at h; simp at h
      | some as =>
        rw [e1, e2] at h
        simp at h
        subst h
        rw [allM_strs e2]
        cases d <;> simp [D.str?] at e1
        subst e1
        rfl
@[simp] theorem allM_mkInts (ns : List Int) : allM D.int? (ns.map D.int) = some ns := by
  induction ns with
  | nil => rfl
  | cons n ns ih => simp [allM, D.int?, ih]
@[simp] theorem allM_mkBls (ns : List Bool) : allM D.bl? (ns.map D.bl) = some ns := by
  induction ns with
  | nil => rfl
  | cons n ns ih => simp [allM, D.bl?, ih]
@[simp] theorem allM_mkStrs (ns : List (List Nat)) : allM D.str? (ns.map D.str) = some ns := by
  induction ns with
  | nil => rfl
  | cons n ns ih => simp [allM, D.str?, ih]

/-! ### a list's or a tuple's items -/
def seqOf (h : IH) : D → Option (List D)
  | .tup l => some l
  | .fl l => some l
  | .ref n => match h[n]? with
    | some (.lst xs) => some xs
    | some (.frz xs) => some xs
    | _ => none
  | _ => none
def lstOf (h : IH) : D → Option (List D)
  | .fl l => some l
  | .ref n => match h[n]? with
    | some (.lst xs) => some xs
    | some (.frz xs) => some xs
    | _ => none
  | _ => none
section
variable {G : Cf} {et : List Addr} {H : Hp} {h : IH}
theorem lst_ok (R : HRel G et h H) {x : D} {xs : List D} {v : V} (e : lstOf h x = some xs) (r : Den G et H x v) : ∃ a vs, v = .ref a ∧ SqL G.K H a vs ∧ DenL G et H xs vs := by
  cases x with
  | fl l =>
    simp only [lstOf, Option.some.injEq] at e
    subst e
    obtain ⟨a, vs, h1, h2, h3⟩ := den_fl.mp r
    exact ⟨a, vs, h1, h2.sq, h3⟩
  | ref n =>
    obtain ⟨a, h1, rfl⟩ := den_ref.mp r
    simp only [lstOf] at e
    split at e
    · rename_i ys hy
      cases e
      obtain ⟨vs, h2, h3⟩ := R.cell n _ a hy h1
      exact ⟨a, vs, rfl, SqL.of h2, h3⟩
    · rename_i ys hy
      cases e
      obtain ⟨vs, h2, h3⟩ := R.cell n _ a hy h1
      exact ⟨a, vs, rfl, h2.sq, h3⟩
    · cases e
  | _ => simp [lstOf] at e
theorem seq_ok (R : HRel G et h H) {x : D} {xs : List D} {v : V} (e : seqOf h x = some xs) (r : Den G et H x v) : ∃ a vs, v = .ref a ∧ (SqL G.K H a vs ∨ SqT G.K H a vs) ∧ DenL G et H xs vs := by
  cases x with
  | tup l =>
    simp only [seqOf, Option.some.injEq] at e
    subst e
    obtain ⟨a, vs, h1, h2, h3⟩ := den_tup.mp r
    exact ⟨a, vs, h1, .inr h2, h3⟩
  | ref n =>
    obtain ⟨a, vs, h1, h2, h3⟩ := lst_ok R (x := .ref n) (by simpa only [lstOf, seqOf] using e) r
    exact ⟨a, vs, h1, .inl h2, h3⟩
  | fl l =>
    obtain ⟨a, vs, h1, h2, h3⟩ := lst_ok R (x := .fl l) (by simpa only [lstOf, seqOf] using e) r
    exact ⟨a, vs, h1, .inl h2, h3⟩
  | _ => simp [seqOf] at e
theorem Pst.here {A : Type} {a : A} {F : List Addr → Hp → IH → A → Prop} {W : Value → Option Addr → Hp → Prop} (R : HRel G et h H) (x : Pst G et H (.ok a h) F W) : F et H h a := x et H List.prefix_rfl (Ext.refl H) R
/-- a new tuple -/
theorem Pst.newT {l : List D} {vs : List V} {Q : VK} {W : Value → Option Addr → Hp → Prop} (R : HRel G et h H) (r : DenL G et H l vs) (x : Pst G et H (.ok (.tup l) h) (fun et' H' _ d => ∀ v, Den G et' H' d v → Q v H') W) :
    ∀ p, H p = none → Q (.ref p) (upd H p (.tup vs)) := fun p hp =>
  x et (upd H p (.tup vs)) List.prefix_rfl (Ext.new hp) (R.new hp) _ (den_tup.mpr ⟨p, vs, rfl, upd_same, r.mono List.prefix_rfl (Ext.new hp)⟩)
/-- a new list -/
theorem Pst.newL {l : List D} {vs : List V} {Q : VK} {W : Value → Option Addr → Hp → Prop} (R : HRel G et h H) (r : DenL G et H l vs) (x : Pst G et H (.ok (.ref h.length) (h ++ [.lst l])) (fun et' H' _ d => ∀ v, Den G et' H' d v → Q v H') W) :
    ∀ p, H p = none → Q (.ref p) (upd H p (.lst vs)) := fun p hp => by
  refine x (et ++ [p]) (upd H p (.lst vs)) (List.prefix_append _ _) (Ext.new hp) (R.push hp ⟨vs, upd_same, r.mono (List.prefix_append _ _) (Ext.new hp)⟩) _ (den_ref.mpr ⟨p, ?_, rfl⟩)
  rw [← R.len, List.getElem?_append_right (Nat.le_refl _), Nat.sub_self]
  rfl
end

/-- a list that stands in the heap -/
def lsOf (h : IH) : D → Option (List D)
  | .fl l => some l
  | .ref n => match h[n]? with
    | some (.lst xs) => some xs
    | _ => none
  | _ => none
theorem ls_ok {G : Cf} {et : List Addr} {H : Hp} {h : IH} (R : HRel G et h H) {x : D} {xs : List D} {v : V} (e : lsOf h x = some xs) (r : Den G et H x v) : ∃ a vs, v = .ref a ∧ Rd H a (.lst vs) ∧ DenL G et H xs vs := by
  cases x with
  | fl l =>
    simp only [lsOf, Option.some.injEq] at e
    subst e
    obtain ⟨a, vs, h1, h2, h3⟩ := den_fl.mp r
    exact ⟨a, vs, h1, h2.rd, h3⟩
  | ref n =>
    obtain ⟨a, h1, rfl⟩ := den_ref.mp r
    simp only [lsOf] at e
    split at e
    · rename_i ys hy
      cases e
      obtain ⟨vs, h2, h3⟩ := R.cell n _ a hy h1
      exact ⟨a, vs, rfl, .inl h2, h3⟩
    · cases e
  | _ => simp [lsOf] at e
/-! ### arithmetic -/
def dI (C : Int → Int → Bool) (g : Int → Int → Int) : D → D → IH → R D
  | .int i, .int j, h => if C i j then .ok (.int (g i j)) h else .no
  | _, _, _ => .no
theorem opS_I {G : Cf} {C : Int → Int → Bool} {C' : Int → Int → Prop} {g : Int → Int → Int} (hC : ∀ i j, C i j = true → C' i j) : OpS G (rI C' fun i j => .int (g i j)) (dI C g) := by
  intro et H h x y v w W Q rx ry R p
  unfold dI at p
  split at p
  · rename_i i j
    split at p
    · rename_i c
      exact ⟨i, j, den_int.mp rx, den_int.mp ry, hC i j c, p.here R _ (by simp)⟩
    · exact p.elim
  · exact p.elim
def dSub : D → D → IH → R D
  | .int i, .int j, h => .ok (.int (i - j)) h
  | _, _, _ => .no
def cMul (i j : Int) : Bool := (decide (-(2 ^ 64) < i) && decide (i < 2 ^ 64)) || (decide (-(2 ^ 64) < j) && decide (j < 2 ^ 64))
def cDiv (_ j : Int) : Bool := decide (0 < j) && decide (j < 2 ^ 64)
def cMod (_ j : Int) : Bool := decide (0 < j)
def cPow (i j : Int) : Bool := decide (0 ≤ j) && decide (j ≤ 1000000) && decide (i.natAbs < 2 ^ 64)
def dMul : D → D → IH → R D
  | .int i, .int j, h => if cMul i j then .ok (.int (i * j)) h else .no
  | .str a, .int k, h => if 0 ≤ k ∧ k ≤ 1000 ∧ a.length ≤ 10000 then .ok (.str (List.replicate k.toNat a).flatten) h else .no
  | .tup l, .int k, h => if 0 < l.length ∧ 2 ≤ k ∧ k ≤ 1000 ∧ l.length ≤ 1000 then .ok (.tup (List.replicate k.toNat l).flatten) h else if k = 1 then .ok (.tup l) h else .no
  | .ref n, .int k, h => match h[n]? with
    | some (.lst xs) => if k ≤ 10000000 ∧ -10000000 ≤ k ∧ xs.length * k.toNat ≤ 10000000 then .ok (.ref h.length) (h ++ [.lst (List.replicate k.toNat xs).flatten]) else .no
    | _ => .no
  | _, _, _ => .no
abbrev dDiv := dI cDiv fun i j => i / j
abbrev dMod := dI cMod fun i j => i % j
abbrev dPow := dI cPow fun i j => i ^ j.toNat
def dAdd : D → D → IH → R D
  | .int i, .int j, h => .ok (.int (i + j)) h
  | .str a, .str b, h => if a.length + b.length ≤ 10000000 then .ok (.str (a ++ b)) h else .no
  | .tup a, .tup b, h => if a.length + b.length ≤ 10000000 then .ok (.tup (a ++ b)) h else .no
  | x, y, h => match lsOf h x, lsOf h y with
    | some xs, some ys => if xs.length + ys.length ≤ 10000000 then .ok (.ref h.length) (h ++ [.lst (xs ++ ys)]) else .no
    | _, _ => .no
section
variable {X : Cx} {G : Cf} {W : WX} {a b e : Expr} {ma mb mc : ME} {pos : Pos}
theorem me_sub (ha : PE X a (tE G W ma)) (hb : PE X b (tE G W mb)) : PE X (.BinOp a .Sub b pos) (tE G W (mOp dSub ma mb)) := by
  refine me_op op_sub ?_ ha hb
  intro et H h x y v w W Q rx ry R p
  unfold dSub at p
  split at p
  · exact ⟨_, _, den_int.mp rx, den_int.mp ry, p.here R _ (by simp)⟩
  · exact p.elim
theorem me_mod (ha : PE X a (tE G W ma)) (hb : PE X b (tE G W mb)) : PE X (.BinOp a .Mod b pos) (tE G W (mOp dMod ma mb)) :=
  me_op op_mod (opS_I fun i j c => by simpa [cMod] using c) ha hb
theorem me_div (ha : PE X a (tE G W ma)) (hb : PE X b (tE G W mb)) : PE X (.BinOp a .FloorDiv b pos) (tE G W (mOp dDiv ma mb)) :=
  me_op op_fdivW (opS_I fun i j c => by
    have c' : 0 < j ∧ j < 2 ^ 64 := by simpa [cDiv] using c
    exact wide_div c'.1 (b := 64) (by omega) (by decide) (by decide)) ha hb
theorem me_pow (ha : PE X a (tE G W ma)) (hb : PE X b (tE G W mb)) : PE X (.BinOp a .Pow b pos) (tE G W (mOp dPow ma mb)) :=
  me_op op_pow (opS_I fun i j c => by
    have c' : (0 ≤ j ∧ j ≤ 1000000) ∧ i.natAbs < 2 ^ 64 := by simpa [cPow] using c
    exact ⟨c'.1.1, c'.1.2, c'.2⟩) ha hb
theorem den_list {et : List Addr} {H : Hp} {h : IH} (R : HRel G et h H) {n : Nat} {xs : List D} {v : V} (e : h[n]? = some (.lst xs)) (r : Den G et H (.ref n) v) : ∃ a vs, et[n]? = some a ∧ v = .ref a ∧ H a = some (.lst vs) ∧ DenL G et H xs vs := by
  obtain ⟨a, h1, rfl⟩ := den_ref.mp r
  obtain ⟨vs, h2, h3⟩ := R.cell n _ a e h1
  exact ⟨a, vs, h1, rfl, h2, h3⟩
theorem DenL.flat {et : List Addr} {H : Hp} {xs : List D} {vs : List V} (r : DenL G et H xs vs) : ∀ k : Nat, DenL G et H (List.replicate k xs).flatten (List.replicate k vs).flatten
  | 0 => by simp
  | k + 1 => by
    rw [List.replicate_succ, List.replicate_succ, List.flatten_cons, List.flatten_cons]
    exact r.app (r.flat k)
end

section
variable {X : Cx}
theorem Inv.lstR {pins : List (Addr × Obj)} {σ : L2.St} {H : Hp} {s : Shared} {a : Addr} {xs : List V} (I : Inv X pins σ H s) (r : Rd H a (.lst xs)) : xs.length ≤ sizeLine ∧ ∃ (its : List Value) (n : Nat), Vals xs its ∧ s.heap.get? a = some { cls := .type "list", data := .seq its.toArray n } := by
  rcases r with r | ⟨o, r⟩
  · exact I.hok a _ r
  · exact (I.hok a _ r).2
def rCatR : R2 := fun x y H Q => ∃ l b xs zs, x = .ref l ∧ y = .ref b ∧ Rd H l (.lst xs) ∧ Rd H b (.lst zs) ∧ xs.length + zs.length ≤ sizeLine ∧ ∀ p, H p = none → Q (.ref p) (upd H p (.lst (xs ++ zs)))
theorem op_catR : OpR X (binaryOp .Add) rCatR := by
  intro pins s σ H x y v u Q I rx ry h
  obtain ⟨l, b, xs, zs, rfl, rfl, hH, hB, hz, q⟩ := h
  cases rx
  cases ry
  obtain ⟨z, its, n, r, e⟩ := Inv.lstR I hH
  obtain ⟨z2, its2, n2, r2, e2⟩ := Inv.lstR I hB
  refine PySem.P.add_list e e2 ?_ (by rw [List.size_toArray, List.size_toArray, ← r.length, ← r2.length]; omega)
  have ea : its.toArray ++ its2.toArray = (its ++ its2).toArray := by simp
  rw [ea]
  exact ⟨.ref _, _, I.lnew (t' := s.toks) (r.append r2) (by rw [List.length_append]; omega), rfl, q _ I.fresh⟩
end
section
variable {X : Cx} {G : Cf} {W : WX} {a b e : Expr} {ma mb mc : ME} {pos : Pos}
theorem foldl_arr (a : List Nat) : ∀ (n : Nat) (z : Array Nat), (List.replicate n a.toArray).foldl (· ++ ·) z = z ++ (List.replicate n a).flatten.toArray
  | 0, z => by simp
  | n + 1, z => by
    rw [List.replicate_succ, List.foldl_cons, foldl_arr a n, List.replicate_succ, List.flatten_cons, Array.append_assoc]
    simp
def rRepS : R2 := fun x y H Q => ∃ a k, x = .str (strV a) ∧ y = .int k ∧ 0 ≤ k ∧ k ≤ 1000 ∧ a.length ≤ 10000 ∧ Q (.str (strV (List.replicate k.toNat a).flatten)) H
theorem op_repS : OpR X (binaryOp .Mult) rRepS := by
  intro pins s σ H x y v u Q I rx ry h
  obtain ⟨w, k, rfl, rfl, h0, h1, hl, q⟩ := h
  obtain ⟨t, rfl⟩ := rx
  obtain ⟨t', rfl⟩ := ry
  have ln : (strV w).length = w.length := by show w.toArray.size = _; simp
  have mm : w.length * k.toNat ≤ 10000 * 1000 := Nat.mul_le_mul hl (by omega)
  have nl : PySem.Builtin.Str.tooLong ((strV w).length * k.toNat) = false := by
    rw [ln]; unfold PySem.Builtin.Str.tooLong; rw [sizeLine_eq]; simp; omega
  refine PySem.P.mul_str (by
    have a1 : ¬ k < -(2 ^ 63 : Int) := by omega
    have a2 : ¬ k ≥ 2 ^ 63 := by omega
    rw [decide_eq_false a1, decide_eq_false a2]; rfl) (fun hk _ => ?_) (fun _ _ => nl) ?_
  · rw [ln]
    have hk' : 0 < k := by omega
    have := (Int.le_ediv_iff_mul_le (a := (w.length : Int)) (b := 2 ^ 63 - 1) hk').mpr (by
      have e : (w.length : Int) * k = ((w.length * k.toNat : Nat) : Int) := by rw [Int.natCast_mul, Int.toNat_of_nonneg h0]
      rw [e]; omega)
    omega
  · by_cases c1 : k < 1
    · rw [if_pos c1]
      have : k = 0 := by omega
      subst this
      exact ⟨by decide, ⟨.str _, H, I.tok _, ⟨_, rfl⟩, q⟩⟩
    · rw [if_neg c1]
      by_cases c2 : (k == 1 || (strV w).length == 0) = true
      · rw [if_pos c2]
        have e : (List.replicate k.toNat w).flatten = w := by
          rw [Bool.or_eq_true, beq_iff_eq, beq_iff_eq, ln] at c2
          rcases c2 with c2 | c2
          · subst c2; simp
          · have := List.eq_nil_of_length_eq_zero c2
            subst this; simp
        rw [e] at q
        exact ⟨.str _, H, I.tok _, ⟨_, rfl⟩, q⟩
      · rw [if_neg c2]
        have e : (⟨(List.replicate k.toNat (strV w).cps).foldl (· ++ ·) #[]⟩ : Str) = strV (List.replicate k.toNat w).flatten := by
          show (⟨(List.replicate k.toNat w.toArray).foldl (· ++ ·) #[]⟩ : Str) = ⟨_⟩
          rw [foldl_arr]; simp
        rw [e]
        exact ⟨by
          show (List.replicate k.toNat w).flatten.toArray.size ≤ _
          rw [sizeLine_eq]; simp [List.length_flatten]; rw [Nat.mul_comm]; omega, ⟨.str _, H, I.tok _, ⟨_, rfl⟩, q⟩⟩
theorem tuple_mul1 (l : Addr) (items : Array Value) (n : Nat) (dd : Option Addr) (sl : Array (Option Value)) (u : Tok) :
    Meets (Builtin.«tuple.__mul__» ⟨[.ref l, .int 1 u], []⟩) (fun _ R s => s.heap.get? l = some { cls := .type "tuple", dict := dd, data := .seq items n, slots := sl } ∧ R (.ok (.ret (Value.ref l))) s) :=
  .of_wp fun prog w A R s h => by
    obtain ⟨hp, g, d, tk, os⟩ := s
    obtain ⟨hl, h⟩ := h
    have f1 := AutoSeq1.idx_int
    wp_walk using wpAny_loadPart' hl
    exact ⟨_, rfl, h⟩
def rRepT1 (K : PySem.W.Frag) : R2 := fun x y H Q => ∃ l xs, x = .ref l ∧ y = .int 1 ∧ SqT K H l xs ∧ Q (.ref l) H
theorem op_repT1 : OpR X (binaryOp .Mult) (rRepT1 X.K) := by
  intro pins s σ H x y v u Q I rx ry h
  obtain ⟨l, xs, rfl, rfl, hT, q⟩ := h
  cases rx
  obtain ⟨t, rfl⟩ := ry
  obtain ⟨its, r, ⟨⟨cls, dd, data, sl⟩, ho, hc, n, hd⟩, hs⟩ := I.tuple hT
  simp only at hc hd
  subst hc hd
  refine wpAny_binaryOp_repeat_ref (T := "tuple") (U := "int") (by decide) ⟨_, ho, rfl⟩ (fun s' => typeIs_int s' 1 t) noFill_tuple_mul F.fills_int_mul F.slot_int_rmul repeat_tuple F.slot_int_index.lookup
    (call_meets F.slot_int_rmul (typeIs_int s 1 t) F.entry_int_rmul (F.args_int_rmul_2 _ _) (int_rmul_tuple 1 t l its.toArray n dd sl)
      ⟨ho, rfl, ⟨_, ho, rfl⟩, call_meets F.slot_tuple_mul ⟨_, ho, rfl⟩ F.entry_tuple_mul (F.args_tuple_mul_2 _ _) (tuple_mul1 l its.toArray n dd sl t) ⟨ho, ?_⟩⟩)
  exact ⟨.ref l, H, I, rfl, q⟩
def rMulAll (K : PySem.W.Frag) : R2 := fun x y H Q => rI CMul (fun i j => .int (i * j)) x y H Q ∨ rRep x y H Q ∨ rRepT K x y H Q ∨ rRepS x y H Q ∨ rRepT1 K x y H Q
theorem op_mulAll : OpR X (binaryOp .Mult) (rMulAll X.K) := OpR.or op_mul (OpR.or op_rep (OpR.or op_repT (OpR.or op_repS op_repT1)))
theorem me_mul (hK : X.K = G.K) (ha : PE X a (tE G W ma)) (hb : PE X b (tE G W mb)) : PE X (.BinOp a .Mult b pos) (tE G W (mOp dMul ma mb)) := by
  refine me_op op_mulAll ?_ ha hb
  intro et H h x y v w W Q rx ry R p
  rw [hK]
  unfold dMul at p
  split at p
  · split at p
    · rename_i i j c
      refine .inl ⟨i, j, den_int.mp rx, den_int.mp ry, ?_, p.here R _ (by simp)⟩
      simpa [cMul, CMul] using c
    · exact p.elim
  · split at p
    · rename_i a k c
      exact .inr (.inr (.inr (.inl ⟨a, k, den_str.mp rx, den_int.mp ry, c.1, c.2.1, c.2.2, p.here R _ (by simp)⟩)))
    · exact p.elim
  · split at p
    · rename_i l k c
      obtain ⟨a, vs, rfl, h2, h3⟩ := den_tup.mp rx
      refine .inr (.inr (.inl ⟨a, k, vs, rfl, den_int.mp ry, h2, ?_, c.2.1, c.2.2.1, by rw [h3.len]; exact c.2.2.2, p.newT R (h3.flat _)⟩))
      rintro rfl
      have := h3.len
      simp at this
      omega
    · split at p
      · rename_i e1
        subst e1
        obtain ⟨a, vs, rfl, h2, h3⟩ := den_tup.mp rx
        exact .inr (.inr (.inr (.inr ⟨a, vs, rfl, den_int.mp ry, h2, p.here R _ rx⟩)))
      · exact p.elim
  · split at p
    · split at p
      · rename_i n k hh xs hx c
        obtain ⟨a, vs, h1, rfl, h2, h3⟩ := den_list R hx rx
        refine .inr (.inl ⟨a, k, vs, rfl, den_int.mp ry, h2, by omega, by omega, sz (by rw [h3.len]; exact c.2.2), ?_⟩)
        exact p.newL R (h3.flat _)
      · exact p.elim
    · exact p.elim
  · exact p.elim
def rAddAll (K : PySem.W.Frag) : R2 := fun x y H Q => rI0 (fun i j => .int (i + j)) x y H Q ∨ (∃ i j, x = .str i ∧ y = .str j ∧ i.length + j.length ≤ sizeLine ∧ Q (.str (i ++ j)) H) ∨ rCatA K x y H Q ∨ rCatR x y H Q
theorem op_addAll : OpR X (binaryOp .Add) (rAddAll X.K) := OpR.or op_add (OpR.or op_add_str (OpR.or op_catA op_catR))
theorem strV_app (a b : List Nat) : strV a ++ strV b = strV (a ++ b) := by
  show (⟨a.toArray ++ b.toArray⟩ : Str) = ⟨(a ++ b).toArray⟩
  simp
theorem dAdd_ok (hK : X.K = G.K) : OpS G (rAddAll X.K) dAdd := by
  intro et H h x y v w W Q rx ry R p
  rw [hK]
  unfold dAdd at p
  split at p
  · exact .inl ⟨_, _, den_int.mp rx, den_int.mp ry, p.here R _ (by simp)⟩
  · split at p
    · rename_i c
      refine .inr (.inl ⟨_, _, den_str.mp rx, den_str.mp ry, ?_, ?_⟩)
      · rw [strV_length, strV_length]; exact sz c
      · exact p.here R _ (by simp [strV_app])
    · exact p.elim
  · split at p
    · rename_i l m c
      obtain ⟨a, vs, rfl, h2, h3⟩ := den_tup.mp rx
      obtain ⟨b, ws, rfl, k2, k3⟩ := den_tup.mp ry
      refine .inr (.inr (.inl ⟨a, b, vs, ws, rfl, rfl, h2, k2, sz (by rw [h3.len, k3.len]; exact c), fun e => ?_, fun e1 e => ?_, fun _ _ => p.newT R (h3.app k3)⟩))
      · have hl : l = [] := by
          have := h3.len
          rw [e] at this
          exact List.eq_nil_of_length_eq_zero this.symm
        subst hl
        exact p.here R _ (den_tup.mpr ⟨b, ws, rfl, k2, k3⟩)
      · have hl : m = [] := by
          have := k3.len
          rw [e] at this
          exact List.eq_nil_of_length_eq_zero this.symm
        subst hl
        exact p.here R _ (den_tup.mpr ⟨a, vs, rfl, h2, by simpa using h3⟩)
    · exact p.elim
  · split at p
    · split at p
      · rename_i xs ys hx hy c
        obtain ⟨a, vs, rfl, h2, h3⟩ := ls_ok R hx rx
        obtain ⟨b, ws, rfl, k2, k3⟩ := ls_ok R hy ry
        exact .inr (.inr (.inr ⟨a, b, vs, ws, rfl, rfl, h2, k2, sz (by rw [h3.len, k3.len]; exact c), p.newL R (h3.app k3)⟩))
      · exact p.elim
    · exact p.elim
theorem me_add (hK : X.K = G.K) (ha : PE X a (tE G W ma)) (hb : PE X b (tE G W mb)) : PE X (.BinOp a .Add b pos) (tE G W (mOp dAdd ma mb)) := me_op op_addAll (dAdd_ok hK) ha hb
/-- order of ints -/
def dC (g : Int → Int → Bool) : D → D → IH → R D
  | .int i, .int j, h => .ok (.bl (g i j)) h
  | _, _, _ => .no
theorem opS_C {g : Int → Int → Bool} : OpS G (rI0 fun i j => .bl (g i j)) (dC g) := by
  intro et H h x y v w W Q rx ry R p
  unfold dC at p
  split at p
  · exact ⟨_, _, den_int.mp rx, den_int.mp ry, p.here R _ (by simp)⟩
  · exact p.elim
abbrev dLt := dC fun i j => decide (i < j)
abbrev dLe := dC fun i j => decide (i ≤ j)
abbrev dGt := dC fun i j => decide (j < i)
abbrev dGe := dC fun i j => decide (j ≤ i)
/-! ### as data -/
def D.py (h : IH) : Nat → D → Option PyData
  | 0, _ => none
  | k + 1, d => match d with
    | .non => some .none
    | .bl b => some (.bool b)
    | .int i => some (.int i)
    | .str s => some (.str (strV s))
    | .tup l => (allM (D.py h k) l).map .tuple
    | .fl l => (allM (D.py h k) l).map .list
    | .ref n => match h[n]? with
      | some (.lst xs) => (allM (D.py h k) xs).map .list
      | some (.frz xs) => (allM (D.py h k) xs).map .list
      | _ => none
    | _ => none
end
theorem allM_cons {A : Type} {f : D → Option A} {d : D} {ds : List D} {r : List A} (e : allM f (d :: ds) = some r) : ∃ a as, f d = some a ∧ allM f ds = some as ∧ r = a :: as := by
  unfold allM at e
  split at e
  · rename_i a as h1 h2
    cases e
    exact ⟨a, as, h1, h2, rfl⟩
  · cases e
section
variable {G : Cf} {et : List Addr} {H : Hp} {h : IH}
theorem depthAll_le {n : Nat} : ∀ {ps : List PyData}, (∀ p ∈ ps, p.depth ≤ n) → PyData.depthAll ps ≤ n
  | [], _ => by simp [PyData.depthAll]
  | p :: ps, hp => by
    have h1 := hp p (List.mem_cons_self)
    have h2 := depthAll_le (ps := ps) fun q hq => hp q (List.mem_cons_of_mem _ hq)
    simp only [PyData.depthAll]
    omega
theorem py_all (R : HRel G et h H) {k : Nat} (ih : ∀ (d : D) (v : V) (p : PyData), D.py h k d = some p → Den G et H d v → Dp G.K H v p ∧ p.plain = true ∧ p.depth ≤ k) :
    ∀ (ds : List D) (vs : List V) (ps : List PyData), allM (D.py h k) ds = some ps → DenL G et H ds vs → DpAll G.K H vs ps ∧ PyData.plainAll ps = true ∧ ∀ p ∈ ps, p.depth ≤ k
  | [], vs, ps, e, r => by
    simp only [allM, Option.some.injEq] at e
    rw [denL_nil] at r
    subst e r
    exact ⟨.nil, by simp [PyData.plainAll], by simp⟩
  | d :: ds, vs, ps, e, r => by
    obtain ⟨p, ps', e1, e2, rfl⟩ := allM_cons e
    obtain ⟨v, ws, rfl, r1, r2⟩ := denL_cons.mp r
    obtain ⟨a1, a2, a3⟩ := ih d v p e1 r1
    obtain ⟨b1, b2, b3⟩ := py_all R ih ds ws ps' e2 r2
    exact ⟨.cons a1 b1, by simp [PyData.plainAll, a2, b2], by simpa using ⟨a3, b3⟩⟩
theorem py_ok (R : HRel G et h H) : ∀ (k : Nat) (d : D) (v : V) (p : PyData), D.py h k d = some p → Den G et H d v → Dp G.K H v p ∧ p.plain = true ∧ p.depth ≤ k
  | 0, _, _, _, e, _ => by simp [D.py] at e
  | k + 1, d, v, p, e, r => by
    have ih := py_all R (py_ok R k)
    cases d with
    | non => simp only [D.py, Option.some.injEq] at e; subst e; rw [den_non.mp r]; exact ⟨.non, by simp [PyData.plain], by simp [PyData.depth]⟩
    | bl b => simp only [D.py, Option.some.injEq] at e; subst e; rw [den_bl.mp r]; exact ⟨.bl b, by simp [PyData.plain], by simp [PyData.depth]⟩
    | int i => simp only [D.py, Option.some.injEq] at e; subst e; rw [den_int.mp r]; exact ⟨.int i, by simp [PyData.plain], by simp [PyData.depth]⟩
    | str s => simp only [D.py, Option.some.injEq] at e; subst e; rw [den_str.mp r]; exact ⟨.str _, by simp [PyData.plain], by simp [PyData.depth]⟩
    | tup l =>
      simp only [D.py, Option.map_eq_some_iff] at e
      obtain ⟨ps, e1, rfl⟩ := e
      obtain ⟨a, vs, rfl, r1, r2⟩ := den_tup.mp r
      obtain ⟨b1, b2, b3⟩ := ih l vs ps e1 r2
      exact ⟨.tup r1 b1, by simp [PyData.plain, b2], by simp only [PyData.depth]; have := depthAll_le b3; omega⟩
    | ref n =>
      obtain ⟨a, r1, rfl⟩ := den_ref.mp r
      simp only [D.py] at e
      split at e
      · rename_i xs hx
        simp only [Option.map_eq_some_iff] at e
        obtain ⟨ps, e1, rfl⟩ := e
        obtain ⟨vs, c1, c2⟩ := R.cell n _ a hx r1
        obtain ⟨b1, b2, b3⟩ := ih xs vs ps e1 c2
        exact ⟨.lst (SqL.of c1) b1, by simp [PyData.plain, b2], by simp only [PyData.depth]; have := depthAll_le b3; omega⟩
      · rename_i xs hx
        simp only [Option.map_eq_some_iff] at e
        obtain ⟨ps, e1, rfl⟩ := e
        obtain ⟨vs, c1, c2⟩ := R.cell n _ a hx r1
        obtain ⟨b1, b2, b3⟩ := ih xs vs ps e1 c2
        exact ⟨.lst c1.sq b1, by simp [PyData.plain, b2], by simp only [PyData.depth]; have := depthAll_le b3; omega⟩
      · cases e
    | fl l =>
      simp only [D.py, Option.map_eq_some_iff] at e
      obtain ⟨ps, e1, rfl⟩ := e
      obtain ⟨a, vs, rfl, r1, r2⟩ := den_fl.mp r
      obtain ⟨b1, b2, b3⟩ := ih l vs ps e1 r2
      exact ⟨.lst r1.sq b1, by simp [PyData.plain, b2], by simp only [PyData.depth]; have := depthAll_le b3; omega⟩
    | fd ks l => simp [D.py] at e
    | exc a => simp [D.py] at e
end
def rEqP (K : PySem.W.Frag) : R2 := fun x y H Q => ∃ d e, Dp K H x d ∧ Dp K H y e ∧ d.plain = true ∧ e.plain = true ∧ d.depth ≤ 50 ∧ Q (.bl (PyData.eqv d e)) H
def rNeP (K : PySem.W.Frag) : R2 := fun x y H Q => ∃ d e, Dp K H x d ∧ Dp K H y e ∧ d.plain = true ∧ e.plain = true ∧ d.depth ≤ 50 ∧ Q (.bl (!PyData.eqv d e)) H
section
variable {X : Cx}
theorem op_eqP (hu : X.A.units + 64 < cLine) : OpR X (compareOp .Eq) (rEqP X.K) := by
  intro pins s σ H x y v u Q I rx ry h
  obtain ⟨d, e, hd, he, pd, pe, dd, q⟩ := h
  obtain ⟨as, r1⟩ := Dp.reads I d x v hd rx
  obtain ⟨bs, r2⟩ := Dp.reads I e y u he ry
  exact SeqAt.eq_plain r1 r2 pd pe (by omega) ⟨.bl _, H, I, rfl, q⟩
theorem op_neP (hu : X.A.units + 64 < cLine) : OpR X (compareOp .NotEq) (rNeP X.K) := by
  intro pins s σ H x y v u Q I rx ry h
  obtain ⟨d, e, hd, he, pd, pe, dd, q⟩ := h
  obtain ⟨as, r1⟩ := Dp.reads I d x v hd rx
  obtain ⟨bs, r2⟩ := Dp.reads I e y u he ry
  exact SeqAt.ne_plain r1 r2 pd pe (by omega) ⟨.bl _, H, I, rfl, q⟩
def rInP (K : PySem.W.Frag) (neg : Bool) : R2 := fun x y H Q => ∃ d es, Dp K H x d ∧ (Dp K H y (.list es) ∨ Dp K H y (.tuple es)) ∧ d.plain = true ∧ PyData.plainAll es = true ∧ d.depth ≤ 50 ∧
  Q (.bl (if neg then !(es.any fun z => PyData.eqv z d) else es.any fun z => PyData.eqv z d)) H
theorem op_inP (hu : X.A.units + 64 < cLine) : OpR X (compareOp .In) (rInP X.K false) := by
  intro pins s σ H x y v u Q I rx ry h
  obtain ⟨d, es, hd, he, pd, pe, dd, q⟩ := h
  obtain ⟨as, r1⟩ := Dp.reads I d x v hd rx
  rcases he with he | he
  · obtain ⟨bs, r2⟩ := Dp.reads I _ y u he ry
    exact SeqAt.in_list_data r2 r1 pe pd (by omega) ⟨.bl _, H, I, rfl, by simpa using q⟩
  · obtain ⟨bs, r2⟩ := Dp.reads I _ y u he ry
    exact SeqAt.in_tuple_data r2 r1 pe pd (by omega) ⟨.bl _, H, I, rfl, by simpa using q⟩
theorem op_notInP (hu : X.A.units + 64 < cLine) : OpR X (compareOp .NotIn) (rInP X.K true) := by
  intro pins s σ H x y v u Q I rx ry h
  obtain ⟨d, es, hd, he, pd, pe, dd, q⟩ := h
  obtain ⟨as, r1⟩ := Dp.reads I d x v hd rx
  rcases he with he | he
  · obtain ⟨bs, r2⟩ := Dp.reads I _ y u he ry
    exact SeqAt.notIn_list_data r2 r1 pe pd (by omega) ⟨.bl _, H, I, rfl, by simpa using q⟩
  · obtain ⟨bs, r2⟩ := Dp.reads I _ y u he ry
    exact SeqAt.notIn_tuple_data r2 r1 pe pd (by omega) ⟨.bl _, H, I, rfl, by simpa using q⟩
end
def dEq (neg : Bool) : D → D → IH → R D := fun x y h => match D.py h 50 x, D.py h 50 y with
  | some a, some b => .ok (.bl (if neg then !PyData.eqv a b else PyData.eqv a b)) h
  | _, _ => .no
/-- x in y: a sign in a text, a datum in a list or a tuple -/
def dIn (neg : Bool) : D → D → IH → R D := fun x y h => match x, y with
  | .str [c], .str z => .ok (.bl (if neg then !decide (c ∈ z) else decide (c ∈ z))) h
  | x, y => match D.py h 50 x, (seqOf h y).bind (allM (D.py h 49)) with
    | some a, some bs => .ok (.bl (if neg then !(bs.any fun z => PyData.eqv z a) else bs.any fun z => PyData.eqv z a)) h
    | _, _ => .no
def dIsN (neg : Bool) : D → D → IH → R D := fun x y h => match y with
  | .non => match x with
    | .non => .ok (.bl (!neg)) h
    | _ => .ok (.bl neg) h
  | .bl b => match x with
    | .bl a => .ok (.bl (if neg then !decide (a = b) else decide (a = b))) h
    | _ => .no
  | _ => .no
section
variable {X : Cx} {G : Cf} {W : WX} {a b c e : Expr} {ma mb mc : ME} {pos : Pos}
theorem dEq_ok (hK : X.K = G.K) : OpS G (rEqP X.K) (dEq false) := by
  intro et H h x y v w W Q rx ry R p
  unfold dEq at p
  split at p
  · rename_i d1 d2 e1 e2
    obtain ⟨a1, a2, a3⟩ := py_ok R 50 x v d1 e1 rx
    obtain ⟨b1, b2, b3⟩ := py_ok R 50 y w d2 e2 ry
    rw [hK]
    exact ⟨d1, d2, a1, b1, a2, b2, a3, p.here R _ (by simp)⟩
  · exact p.elim
theorem dNe_ok (hK : X.K = G.K) : OpS G (rNeP X.K) (dEq true) := by
  intro et H h x y v w W Q rx ry R p
  unfold dEq at p
  split at p
  · rename_i d1 d2 e1 e2
    obtain ⟨a1, a2, a3⟩ := py_ok R 50 x v d1 e1 rx
    obtain ⟨b1, b2, b3⟩ := py_ok R 50 y w d2 e2 ry
    rw [hK]
    exact ⟨d1, d2, a1, b1, a2, b2, a3, p.here R _ (by simp)⟩
  · exact p.elim
def rInA (K : PySem.W.Frag) (neg : Bool) : R2 := fun x y H Q => (∃ (c : Nat) (z : Str), x = .str ⟨#[c]⟩ ∧ y = .str z ∧ Q (.bl (if neg then !decide (c ∈ z.cps.toList) else decide (c ∈ z.cps.toList))) H) ∨ rInP K neg x y H Q
theorem op_inA (hu : X.A.units + 64 < cLine) : OpR X (compareOp .In) (rInA X.K false) := by
  intro pins s σ H x y v u Q I rx ry h
  rcases h with ⟨c, z, h1, h2, q⟩ | h
  · exact op_in_sign pins s σ H x y v u Q I rx ry ⟨c, z, h1, h2, by simpa using q⟩
  · exact op_inP hu pins s σ H x y v u Q I rx ry h
theorem op_notInA (hu : X.A.units + 64 < cLine) : OpR X (compareOp .NotIn) (rInA X.K true) := by
  intro pins s σ H x y v u Q I rx ry h
  rcases h with ⟨c, z, h1, h2, q⟩ | h
  · exact op_notIn_sign pins s σ H x y v u Q I rx ry ⟨c, z, h1, h2, by simpa using q⟩
  · exact op_notInP hu pins s σ H x y v u Q I rx ry h
theorem dIn_ok (hK : X.K = G.K) (neg : Bool) : OpS G (rInA X.K neg) (dIn neg) := by
  intro et H h x y v w W Q rx ry R p
  unfold dIn at p
  split at p
  · rename_i c z
    refine .inl ⟨c, strV z, den_str.mp rx, den_str.mp ry, ?_⟩
    have h1 : decide (c ∈ (strV z).cps.toList) = decide (c ∈ z) := decide_eq_decide.mpr (by simp [strV])
    rw [h1]
    exact p.here R _ (by simp)
  · split at p
    · rename_i d es e1 e2
      obtain ⟨a1, a2, a3⟩ := py_ok R 50 x v d e1 rx
      simp only [Option.bind_eq_some_iff] at e2
      obtain ⟨ds, e3, e4⟩ := e2
      obtain ⟨q, vs, rfl, s1, s2⟩ := seq_ok R e3 ry
      obtain ⟨b1, b2, b3⟩ := py_all R (py_ok R 49) ds vs es e4 s2
      rw [hK]
      refine .inr ⟨d, es, a1, ?_, a2, b2, a3, p.here R _ (by simp)⟩
      rcases s1 with s1 | s1
      · exact .inl (.lst s1 b1)
      · exact .inr (.tup s1 b1)
    · exact p.elim
theorem op_isA : OpR X (compareOp .Is) (fun x y H Q => (y = .non ∧ Q (.bl (decide (x = .non))) H) ∨ rIsB x y H Q) := OpR.or op_isN op_isBl
theorem op_isnotA : OpR X (compareOp .IsNot) (fun x y H Q => (y = .non ∧ Q (.bl (!decide (x = .non))) H) ∨ rNotB x y H Q) := OpR.or op_notN op_notBl
theorem den_nn {et : List Addr} {H : Hp} {x : D} {v : V} (n : x ≠ .non) (r : Den G et H x v) : v ≠ .non := by
  cases x with
  | non => exact absurd rfl n
  | bl b => rw [den_bl.mp r]; exact fun z => nomatch z
  | int b => rw [den_int.mp r]; exact fun z => nomatch z
  | str b => rw [den_str.mp r]; exact fun z => nomatch z
  | tup l => obtain ⟨a, vs, e, _⟩ := den_tup.mp r; rw [e]; exact fun z => nomatch z
  | ref n => obtain ⟨a, _, e⟩ := den_ref.mp r; rw [e]; exact fun z => nomatch z
  | exc a => rw [show v = .ref a by simpa [Den] using r]; exact fun z => nomatch z
  | fl l => obtain ⟨a, vs, e, _⟩ := den_fl.mp r; rw [e]; exact fun z => nomatch z
  | fd ks l => obtain ⟨a, vs, e, _⟩ := den_fd.mp r; rw [e]; exact fun z => nomatch z
theorem dIs_ok : OpS G (fun x y H Q => (y = .non ∧ Q (.bl (decide (x = .non))) H) ∨ rIsB x y H Q) (dIsN false) := by
  intro et H h x y v w W Q rx ry R p
  unfold dIsN at p
  split at p
  · split at p
    · refine .inl ⟨den_non.mp ry, ?_⟩
      exact p.here R _ (by simp [den_non.mp rx])
    · rename_i hn
      refine .inl ⟨den_non.mp ry, ?_⟩
      exact p.here R _ (by simpa using den_nn hn rx)
  · split at p
    · exact .inr ⟨_, _, den_bl.mp rx, den_bl.mp ry, p.here R _ (by simp)⟩
    · exact p.elim
  · exact p.elim
theorem dIsnot_ok : OpS G (fun x y H Q => (y = .non ∧ Q (.bl (!decide (x = .non))) H) ∨ rNotB x y H Q) (dIsN true) := by
  intro et H h x y v w W Q rx ry R p
  unfold dIsN at p
  split at p
  · split at p
    · refine .inl ⟨den_non.mp ry, ?_⟩
      exact p.here R _ (by simp [den_non.mp rx])
    · rename_i hn
      refine .inl ⟨den_non.mp ry, ?_⟩
      exact p.here R _ (by simpa using den_nn hn rx)
  · split at p
    · exact .inr ⟨_, _, den_bl.mp rx, den_bl.mp ry, p.here R _ (by simp)⟩
    · exact p.elim
  · exact p.elim
end
end NR

set_option Elab.async false
set_option linter.all false
set_option maxRecDepth 100000
/-! Tests, calls, statements. -/
namespace NR
open PySem PySem.Spec PyProof.Rows L2

/-! ### truth, tests -/
def truD (h : IH) : D → Option Bool
  | .non => some false
  | .bl b => some b
  | .int i => some (i != 0)
  | .str s => if s.length ≤ 10000000 then some ((s.length : Int) != 0) else none
  | .tup l => some (!l.isEmpty)
  | .fl l => some (!l.isEmpty)
  | .ref n => match h[n]? with
    | some (.lst xs) => some (!xs.isEmpty)
    | some (.frz xs) => some (!xs.isEmpty)
    | some (.dk kvs) => some (!kvs.isEmpty)
    | _ => none
  | _ => none
theorem empty_iff {G : Cf} {et : List Addr} {H : Hp} {xs : List D} {vs : List V} (r : DenL G et H xs vs) : xs.isEmpty = vs.isEmpty := by
  have := r.len
  cases xs <;> cases vs <;> simp at this ⊢
theorem tru_okD {G : Cf} {et : List Addr} {H : Hp} {h : IH} (R : HRel G et h H) {d : D} {v : V} {b : Bool} (e : truD h d = some b) (r : Den G et H d v) : TruV G.K v H b := by
  cases d with
  | non => rw [den_non.mp r]; simp only [truD, Option.some.injEq] at e; exact e.symm
  | bl c => rw [den_bl.mp r]; simp only [truD, Option.some.injEq] at e; exact e.symm
  | int c => rw [den_int.mp r]; simp only [truD, Option.some.injEq] at e; exact e.symm
  | str s =>
    rw [den_str.mp r]
    simp only [truD] at e
    split at e
    · rename_i c
      cases e
      exact ⟨by rw [strV_length]; exact sz c, by rw [strV_length]⟩
    · cases e
  | tup l =>
    obtain ⟨a, vs, rfl, h1, h2⟩ := den_tup.mp r
    simp only [truD, Option.some.injEq] at e
    exact .inr (.inl ⟨vs, h1, by rw [← e, empty_iff h2]⟩)
  | ref n =>
    obtain ⟨a, h1, rfl⟩ := den_ref.mp r
    simp only [truD] at e
    split at e
    · rename_i xs hx
      cases e
      obtain ⟨vs, h2, h3⟩ := R.cell n _ a hx h1
      exact .inl ⟨vs, SqL.of h2, by rw [empty_iff h3]⟩
    · rename_i xs hx
      cases e
      obtain ⟨vs, h2, h3⟩ := R.cell n _ a hx h1
      exact .inl ⟨vs, h2.sq, by rw [empty_iff h3]⟩
    · rename_i kvs hx
      cases e
      obtain ⟨ws, h2, h3, h4⟩ := R.cell n _ a hx h1
      refine .inr (.inr ⟨ws, h2, ?_⟩)
      have := congrArg List.length h3
      simp at this
      cases kvs <;> cases ws <;> simp at this ⊢
    · cases e
  | fl l =>
    obtain ⟨a, vs, rfl, h1, h2⟩ := den_fl.mp r
    simp only [truD, Option.some.injEq] at e
    exact .inl ⟨vs, h1.sq, by rw [← e, empty_iff h2]⟩
  | fd ks l => simp [truD] at e
  | exc a => simp [truD] at e
def R.ofO {A : Type} (o : Option A) (h : IH) : R A := match o with
  | some a => .ok a h
  | none => .no
def mTr (m : ME) : MT := fun env h => (m env h).bind fun d h1 => R.ofO (truD h1 d) h1
def mTb (m : ME) : MT := fun env h => (m env h).bind fun d h1 => R.ofO d.bl? h1
def mAnd (a b : MT) : MT := fun env h => (a env h).bind fun c h1 => if c = true then b env h1 else .ok false h1
def mOr (a b : MT) : MT := fun env h => (a env h).bind fun c h1 => if c = true then .ok true h1 else b env h1
def mNot (a : MT) : MT := fun env h => (a env h).bind fun c h1 => .ok (!c) h1
def mAndV (a b : ME) : ME := fun env h => (a env h).bind fun x h1 => match x with
  | .bl true => b env h1
  | .bl false => .ok (.bl false) h1
  | _ => .no
def mOrV (a b : ME) : ME := fun env h => (a env h).bind fun x h1 => match x with
  | .bl true => .ok (.bl true) h1
  | .bl false => b env h1
  | _ => .no
def mNotV (a : ME) : ME := fun env h => (a env h).bind fun x h1 => match x with
  | .bl b => .ok (.bl (!b)) h1
  | _ => .no
def mIf (t : MT) (a b : ME) : ME := fun env h => (t env h).bind fun c h1 => if c = true then a env h1 else b env h1
def mChain (f g : D → D → IH → R D) (a b c : ME) : ME := fun env h => (a env h).bind fun x h1 => (b env h1).bind fun y h2 => (f x y h2).bind fun z h3 => match z with
  | .bl true => (c env h3).bind fun w h4 => g y w h4
  | .bl false => .ok (.bl false) h3
  | _ => .no
section
variable {X : Cx} {G : Cf} {W : WX} {a b c e : Expr} {ma mb mc : ME} {ta tb : MT} {pos : Pos} {rest : List Expr} {r r' : R2} {f g : D → D → IH → R D}
theorem mt_val (hK : X.K = G.K) (h : PE X a (tE G W ma)) (he : ∀ whole, isTrue a X.env whole = (do let v ← whole; standAt a.pos; holding [v] (truthy v)) := by intro _; rfl) : PT X a (tT G W (mTr ma)) :=
  PT.imp (pt_truth h he) fun σ H Q ⟨et, env, h, hE, hH, hP⟩ => by
    refine ⟨et, env, h, hE, hH, (Pst.of_bind hP).imp fun et1 H1 h1 d p e hr q v hv => ?_⟩
    cases ht : truD h1 d with
    | none => simp only [ht, R.ofO] at q; exact q.elim
    | some k =>
      simp only [ht, R.ofO] at q
      rw [hK]
      exact ⟨k, tru_okD hr ht hv, q.here hr⟩
theorem mt_cmp {op : CmpOp} (ho : OpR X (compareOp op) r) (hs : OpS G r f) (ha : PE X a (tE G W ma)) (hb : PE X b (tE G W mb)) (hm : behindInMarks op b = false := by first | exact nomark _ | rfl) : PT X (.Compare a [op] [b] pos) (tT G W (mTb (mOp f ma mb))) :=
  PT.imp (pt_cmpR ho ha hb hm) fun σ H Q ⟨et, env, h, hE, hH, hP⟩ => by
    refine tOp_of hs ⟨et, env, h, hE, hH, (Pst.of_bind hP).imp fun et1 H1 h1 d p e hr q v hv => ?_⟩
    cases d with
    | bl k => exact ⟨k, den_bl.mp hv, q.here hr⟩
    | _ => exact q.elim
theorem tChain_of {σ : L2.St} {H : Hp} {Q : VK} (hs : OpS G r f) (hs' : OpS G r' g) (x : tE G W (mChain f g ma mb mc) σ H Q) : tChain r r' (tE G W ma) (tE G W mb) (tE G W mc) σ H Q := by
  obtain ⟨et, env, h, hE, hH, hP⟩ := x
  refine ⟨et, env, h, hE, hH, (Pst.of_bind hP).imp fun et1 H1 h1 x p e hr q v hv => ?_⟩
  refine ⟨et1, env, h1, hE.mono p e, hr, (Pst.of_bind q).imp fun et2 H2 h2 y p2 e2 hr2 q2 w hw => ?_⟩
  refine hs et2 H2 h2 x y v w _ _ (hv.mono p2 e2) hw hr2 ((Pst.of_bind q2).imp fun et3 H3 h3 z p3 e3 hr3 q3 vz hz => ?_)
  cases z with
  | bl k =>
    refine ⟨k, den_bl.mp hz, ?_⟩
    cases k with
    | true =>
      rw [if_pos rfl]
      refine ⟨et3, env, h3, ((hE.mono p e).mono p2 e2).mono p3 e3, hr3, (Pst.of_bind q3).imp fun et4 H4 h4 u p4 e4 hr4 q4 vu hu => ?_⟩
      exact hs' et4 H4 h4 y u w vu _ Q ((hw.mono p3 e3).mono p4 e4) hu hr4 q4
    | false =>
      rw [if_neg Bool.false_ne_true]
      exact q3.here hr3 _ (by simp)
  | _ => exact q3.elim
theorem me_chain {op op' : CmpOp} (ho : OpR X (compareOp op) r) (hs : OpS G r f) (ho' : OpR X (compareOp op') r') (hs' : OpS G r' g) (ha : PE X a (tE G W ma)) (hb : PE X b (tE G W mb)) (hc : PE X c (tE G W mc)) (hm : lastMarks [op, op'] [b, c] = false := by rfl) :
    PE X (.Compare a [op, op'] [b, c] pos) (tE G W (mChain f g ma mb mc)) := PE.imp (pe_chain ho ho' ha hb hc hm) fun _ _ _ x => tChain_of hs hs' x
theorem mt_chain {op op' : CmpOp} (ho : OpR X (compareOp op) r) (hs : OpS G r f) (ho' : OpR X (compareOp op') r') (hs' : OpS G r' g) (ha : PE X a (tE G W ma)) (hb : PE X b (tE G W mb)) (hc : PE X c (tE G W mc)) (hm : lastMarks [op, op'] [b, c] = false := by rfl) :
    PT X (.Compare a [op, op'] [b, c] pos) (tT G W (mTb (mChain f g ma mb mc))) := PT.imp (pt_chain ho ho' ha hb hc hm) fun σ H Q ⟨et, env, h, hE, hH, hP⟩ => by
    refine tChain_of hs hs' ⟨et, env, h, hE, hH, (Pst.of_bind hP).imp fun et1 H1 h1 d p e hr q v hv => ?_⟩
    cases d with
    | bl k => exact ⟨k, den_bl.mp hv, q.here hr⟩
    | _ => exact q.elim
theorem tAnd_of {σ : L2.St} {H : Hp} {Q : Bool → Hp → Prop} (x : tT G W (mAnd ta tb) σ H Q) : tAnd (tT G W ta) (tT G W tb) σ H Q := by
  obtain ⟨et, env, h, hE, hH, hP⟩ := x
  refine ⟨et, env, h, hE, hH, (Pst.of_bind hP).imp fun et1 H1 h1 k p e hr q => ?_⟩
  cases k with
  | true =>
    rw [if_pos rfl] at q ⊢
    exact ⟨et1, env, h1, hE.mono p e, hr, q⟩
  | false =>
    rw [if_neg Bool.false_ne_true] at q ⊢
    exact q.here hr
theorem tOr_of {σ : L2.St} {H : Hp} {Q : Bool → Hp → Prop} (x : tT G W (mOr ta tb) σ H Q) : tOr (tT G W ta) (tT G W tb) σ H Q := by
  obtain ⟨et, env, h, hE, hH, hP⟩ := x
  refine ⟨et, env, h, hE, hH, (Pst.of_bind hP).imp fun et1 H1 h1 k p e hr q => ?_⟩
  cases k with
  | true =>
    rw [if_pos rfl] at q ⊢
    exact q.here hr
  | false =>
    rw [if_neg Bool.false_ne_true] at q ⊢
    exact ⟨et1, env, h1, hE.mono p e, hr, q⟩
theorem mw_and1 (ha : PT X a (tT G W ta)) : PW X (.BoolOp .And [a] pos) (tT G W ta) := pw_and1 ha
theorem mw_or1 (ha : PT X a (tT G W ta)) : PW X (.BoolOp .Or [a] pos) (tT G W ta) := pw_or1 ha
theorem mw_and (ha : PT X a (tT G W ta)) (hb : PW X (.BoolOp .And (b :: rest) pos) (tT G W tb)) : PW X (.BoolOp .And (a :: b :: rest) pos) (tT G W (mAnd ta tb)) := PW.imp (pw_and ha hb) fun _ _ _ x => tAnd_of x
theorem mw_or (ha : PT X a (tT G W ta)) (hb : PW X (.BoolOp .Or (b :: rest) pos) (tT G W tb)) : PW X (.BoolOp .Or (a :: b :: rest) pos) (tT G W (mOr ta tb)) := PW.imp (pw_or ha hb) fun _ _ _ x => tOr_of x
theorem mt_not (ha : PT X a (tT G W ta)) : PT X (.UnaryOp .Not a pos) (tT G W (mNot ta)) := PT.imp (pt_not ha) fun σ H Q ⟨et, env, h, hE, hH, hP⟩ =>
  ⟨et, env, h, hE, hH, (Pst.of_bind hP).imp fun et1 H1 h1 k p e hr q => q.here hr⟩
theorem me_one {op} (h : PE X a (tE G W ma)) : PE X (.BoolOp op [a] pos) (tE G W ma) := pe_one h
theorem me_and (ha : PE X a (tE G W ma)) (hb : PE X (.BoolOp .And (b :: rest) pos) (tE G W mb)) : PE X (.BoolOp .And (a :: b :: rest) pos) (tE G W (mAndV ma mb)) := PE.imp (pe_and ha hb) fun σ H Q ⟨et, env, h, hE, hH, hP⟩ => by
  refine ⟨et, env, h, hE, hH, (Pst.of_bind hP).imp fun et1 H1 h1 d p e hr q v hv => ?_⟩
  cases d with
  | bl k =>
    refine ⟨k, den_bl.mp hv, ?_⟩
    cases k with
    | true => rw [if_pos rfl]; exact ⟨et1, env, h1, hE.mono p e, hr, q⟩
    | false => rw [if_neg Bool.false_ne_true]; exact q.here hr _ (by simp)
  | _ => exact q.elim
theorem me_or (ha : PE X a (tE G W ma)) (hb : PE X (.BoolOp .Or (b :: rest) pos) (tE G W mb)) : PE X (.BoolOp .Or (a :: b :: rest) pos) (tE G W (mOrV ma mb)) := PE.imp (pe_or ha hb) fun σ H Q ⟨et, env, h, hE, hH, hP⟩ => by
  refine ⟨et, env, h, hE, hH, (Pst.of_bind hP).imp fun et1 H1 h1 d p e hr q v hv => ?_⟩
  cases d with
  | bl k =>
    refine ⟨k, den_bl.mp hv, ?_⟩
    cases k with
    | true => rw [if_pos rfl]; exact q.here hr _ (by simp)
    | false => rw [if_neg Bool.false_ne_true]; exact ⟨et1, env, h1, hE.mono p e, hr, q⟩
  | _ => exact q.elim
theorem me_not (ha : PE X a (tE G W ma)) : PE X (.UnaryOp .Not a pos) (tE G W (mNotV ma)) := PE.imp (pe_not ha) fun σ H Q ⟨et, env, h, hE, hH, hP⟩ => by
  refine ⟨et, env, h, hE, hH, (Pst.of_bind hP).imp fun et1 H1 h1 d p e hr q v hv => ?_⟩
  cases d with
  | bl k => exact ⟨k, den_bl.mp hv, q.here hr _ (by simp)⟩
  | _ => exact q.elim
theorem me_ifExp (hc : PT X c (tT G W ta)) (ha : PE X a (tE G W ma)) (hb : PE X b (tE G W mb)) : PE X (.IfExp c a b pos) (tE G W (mIf ta ma mb)) := PE.imp (pe_ifExp hc ha hb) fun σ H Q ⟨et, env, h, hE, hH, hP⟩ => by
  refine ⟨et, env, h, hE, hH, (Pst.of_bind hP).imp fun et1 H1 h1 k p e hr q => ?_⟩
  cases k with
  | true => rw [if_pos rfl] at q ⊢; exact ⟨et1, env, h1, hE.mono p e, hr, q⟩
  | false => rw [if_neg Bool.false_ne_true] at q ⊢; exact ⟨et1, env, h1, hE.mono p e, hr, q⟩
def mNeg (a : ME) : ME := fun env h => (a env h).bind fun x h1 => match x with
  | .int i => .ok (.int (-i)) h1
  | _ => .no
theorem me_neg (ha : PE X a (tE G W ma)) : PE X (.UnaryOp .USub a pos) (tE G W (mNeg ma)) := PE.imp (pe_un un_neg ha) fun σ H Q ⟨et, env, h, hE, hH, hP⟩ => by
  refine ⟨et, env, h, hE, hH, (Pst.of_bind hP).imp fun et1 H1 h1 d p e hr q v hv => ?_⟩
  cases d with
  | int k => exact ⟨k, den_int.mp hv, q.here hr _ (by simp)⟩
  | _ => exact q.elim
end

/-! ### arguments, displays -/
def mNil : MA := fun _ h => .ok [] h
def mCons (a : ME) (t : MA) : MA := fun env h => (a env h).bind fun x h1 => (t env h1).bind fun xs h2 => .ok (x :: xs) h2
def mTup (t : MA) : ME := fun env h => (t env h).bind fun xs h1 => if xs.length ≤ 10000000 then .ok (.tup xs) h1 else .no
def mLst (t : MA) : ME := fun env h => (t env h).bind fun xs h1 => if xs.length ≤ 10000000 then .ok (.ref h1.length) (h1 ++ [.lst xs]) else .no
section
variable {X : Cx} {G : Cf} {W : WX} {a b c e : Expr} {es : List Expr} {ma mb mc : ME} {mt : MA} {pos : Pos}
theorem ma_nil : PA X [] (tA G W mNil) := PA.imp pa_nil fun σ H Q ⟨et, env, h, hE, hH, hP⟩ => hP.here hH [] (by simp)
theorem ma_cons (he : PE X e (tE G W ma)) (h : PA X es (tA G W mt)) (hs : starEach (e :: es) X.env = (false, eval e X.env) :: starEach es X.env := by rfl) : PA X (e :: es) (tA G W (mCons ma mt)) := PA.imp (pa_cons he h hs) fun σ H Q ⟨et, env, h, hE, hH, hP⟩ => by
  refine ⟨et, env, h, hE, hH, (Pst.of_bind hP).imp fun et1 H1 h1 x p e hr q v hv => ?_⟩
  refine ⟨et1, env, h1, hE.mono p e, hr, (Pst.of_bind q).imp fun et2 H2 h2 xs p2 e2 hr2 q2 ws hw => ?_⟩
  exact q2.here hr2 _ (denL_cons.mpr ⟨v, ws, rfl, hv.mono p2 e2, hw⟩)
theorem me_tup {k : Nat} (h : PA X es (tA G W mt)) : PE X (.Tuple es k pos) (tE G W (mTup mt)) := PE.imp (pe_tup h) fun σ H Q ⟨et, env, h, hE, hH, hP⟩ => by
  refine ⟨et, env, h, hE, hH, (Pst.of_bind hP).imp fun et1 H1 h1 xs p e hr q vs hv => ?_⟩
  split at q
  · rename_i l
    exact ⟨sz (by rw [hv.len]; exact l), q.newT hr hv⟩
  · exact q.elim
theorem me_lst (h : PA X es (tA G W mt)) : PE X (.List es pos) (tE G W (mLst mt)) := PE.imp (pe_lst h) fun σ H Q ⟨et, env, h, hE, hH, hP⟩ => by
  refine ⟨et, env, h, hE, hH, (Pst.of_bind hP).imp fun et1 H1 h1 xs p e hr q vs hv => ?_⟩
  split at q
  · rename_i l
    exact ⟨sz (by rw [hv.len]; exact l), q.newL hr hv⟩
  · exact q.elim
end

/-! ### defs and their calls -/
def FSp (G : Cf) (n : Nat) (fm : MF) : Sp := fun vs H Q E => vs.length = n ∧ ∃ et ds h, DenL G et H ds vs ∧ HRel G et h H ∧
  Pst G et H (fm ds h) (fun et' H' _ d => ∀ v, Den G et' H' d v → Q v H') E
/-- the old cells are as they were, or tell of old cells alone -/
def okB (k : Nat) : IH → IH → Prop
  | [], _ => True
  | c :: cs, c' :: cs' => (c' = c ∨ Cell.lo k c' = true) ∧ okB k cs cs'
  | _ :: _, [] => False
def xfLo (n : Nat) : XF → Bool
  | none => true
  | some fs => D.loL n (fs.map (·.2))
open Classical in
noncomputable def clean (h : IH) (r : R D) : R D := match r with
  | .ok d h' => if d.lo h.length = true ∧ okB h.length h h' then .ok d (h'.take h.length) else .ok d h'
  | .ex c d h' => if xfLo h.length d = true ∧ okB h.length h h' then .ex c d (h'.take h.length) else .ex c d h'
  | .no => .no
theorem okB_get {k : Nat} : ∀ {h h' : IH} {n : Nat} {c : Cell}, okB k h h' → n < h.length → h'[n]? = some c → h[n]? = some c ∨ Cell.lo k c = true
  | [], _, n, _, _, l, _ => absurd l (Nat.not_lt_zero n)
  | _ :: _, [], _, _, o, _, _ => o.elim
  | c :: cs, c' :: cs', 0, d, o, _, e => by
    simp at e
    subst e
    rcases o.1 with h | h
    · exact .inl (by simp [h])
    · exact .inr h
  | c :: cs, c' :: cs', n + 1, d, o, l, e => by
    have := okB_get o.2 (n := n) (by simpa using l) (by simpa using e)
    simpa using this
theorem okB_len {k : Nat} : ∀ {h h' : IH}, okB k h h' → h.length ≤ h'.length
  | [], _, _ => Nat.zero_le _
  | _ :: _, [], o => o.elim
  | c :: cs, c' :: cs', o => by have := okB_len o.2; simp; omega
theorem HRel.lo {G : Cf} {et : List Addr} {h : IH} {H : Hp} (R : HRel G et h H) {n : Nat} {c : Cell} (e : h[n]? = some c) : Cell.lo et.length c = true := by
  obtain ⟨a, ha⟩ := R.addr e
  exact (R.cell n c a e ha).lo
theorem okB_all {G : Cf} {et : List Addr} {h h' : IH} {H : Hp} (R : HRel G et h H) (o : okB h.length h h') : (h'.take et.length).all (Cell.lo et.length) = true := by
  rw [List.all_eq_true]
  intro c hc
  obtain ⟨n, hn⟩ := List.mem_iff_getElem?.mp hc
  have hl : n < et.length := by
    have := (List.getElem?_eq_some_iff.mp hn).1
    rw [List.length_take] at this
    omega
  rw [List.getElem?_take_of_lt hl] at hn
  rw [R.len] at hl ⊢
  rcases okB_get o hl hn with h1 | h1
  · have := R.lo h1
    rw [R.len] at this
    exact this
  · exact h1
theorem HRel.cut {G : Cf} {et et' : List Addr} {h' : IH} {H : Hp} (p : et <+: et') (R : HRel G et' h' H) (c : (h'.take et.length).all (Cell.lo et.length) = true) : HRel G et (h'.take et.length) H := by
  obtain ⟨t, rfl⟩ := p
  have lt : ∀ {n : Nat} {c : Cell}, (h'.take et.length)[n]? = some c → n < et.length ∧ h'[n]? = some c := fun {n c} e => by
    by_cases hn : n < et.length
    · rw [List.getElem?_take_of_lt hn] at e
      exact ⟨hn, e⟩
    · rw [List.getElem?_eq_none (by rw [List.length_take]; omega)] at e
      cases e
  have al : ∀ {n : Nat} {a : Addr}, et[n]? = some a → (et ++ t)[n]? = some a := fun {n a} e => by
    rw [List.getElem?_append_left (List.getElem?_eq_some_iff.mp e).1]
    exact e
  refine ⟨?_, fun n m c1 c2 a h1 h2 h3 h4 f1 f2 => R.nd n m c1 c2 a (lt h1).2 (lt h2).2 (al h3) (al h4) f1 f2, fun n c1 a h1 h2 => ?_⟩
  · have := R.len
    rw [List.length_append] at this
    rw [List.length_take]
    omega
  · have hm : c1 ∈ h'.take et.length := List.mem_of_getElem? h1
    exact (R.cell n c1 a (lt h1).2 (al h2)).back (List.prefix_append _ _) (List.all_eq_true.mp c c1 hm)
theorem Pst.cleaned {G : Cf} {et : List Addr} {H : Hp} {h : IH} {r : R D} {Q : VK} {W : Value → Option Addr → Hp → Prop} (R : HRel G et h H) (x : Pst G et H (clean h r) (fun et' H' _ d => ∀ v, Den G et' H' d v → Q v H') W) :
    Pst G et H r (fun et' H' _ d => ∀ v, Den G et' H' d v → Q v H') W := by
  cases r with
  | no => exact x
  | ok d h' =>
    simp only [clean] at x
    split at x
    · rename_i c
      intro et' H' p e hr v hv
      have al := okB_all R c.2
      have c1 := c.1
      rw [← R.len] at c1 x
      exact x et H' List.prefix_rfl e (hr.cut p al) v (hv.back p c1)
    · exact x
  | ex c d h' =>
    simp only [clean] at x
    split at x
    · rename_i c
      intro et' H' cls dd p e hr hx
      have al := okB_all R c.2
      have c1 := c.1
      rw [← R.len] at c1 x
      refine x et H' cls dd List.prefix_rfl e (hr.cut p al) ⟨hx.1, ?_⟩
      have h2 := hx.2
      cases d with
      | none => exact h2
      | some fs =>
        obtain ⟨a, ws, q1, q2, q3, q4⟩ := h2
        exact ⟨a, ws, q1, q2, q3, q4.back p c1⟩
    · exact x
noncomputable def callC (n : Nat) (fm : MF) (ds : List D) (h : IH) : R D := if ds.length = n then clean h (fm ds h) else .no
noncomputable def mCall (n : Nat) (fm : MF) (a : MA) : ME := fun env h => (a env h).bind fun ds h1 => callC n fm ds h1
section
variable {X : Cx} {G : Cf} {W : WX} {k n : Nat} {f : Addr} {fd : FuncData} {ps : List Str} {fm : MF} {x : Str} {p pos : Pos} {e : Expr} {es : List Expr} {mt : MA}
theorem FSp.of_call {ds : List D} {vs : List V} {et : List Addr} {H : Hp} {h : IH} {Q : VK} {W0 : XK} (hv : DenL G et H ds vs) (hr : HRel G et h H) (q : Pst G et H (callC n fm ds h) (fun et' H' _ d => ∀ v, Den G et' H' d v → Q v H') W0) : FSp G n fm vs H Q W0 := by
  unfold callC at q
  split at q
  · rename_i l
    exact ⟨by rw [hv.len]; exact l, et, ds, h, hv, hr, q.cleaned hr⟩
  · exact q.elim
theorem me_call (F : FnOk X.prog X.w X.K X.mg X.base (L2.CX X.prog X.w) k f fd ps (FSp G n fm)) (hr : Room k X.A) (hm : X.mg x = some (.ref f)) (hk : PySem.W.keepIn X.K (.ref f) = true) (hb : Binds X.K fd ps []) (tk : Takes X W)
    (ha : PA X (e :: es) (tA G W mt)) (hg : Gl X x := by rfl) (hdb : (x == ("__debug__" : Str)) = false := by decide) (he : starEach (e :: es) X.env = (false, eval e X.env) :: starEach es X.env := by rfl) (hpl : (backTo pos (starEach es X.env)).any (·.1) = false := by rfl) :
    PE X (.Call (.Name x p) (e :: es) [] pos) (tE G W (mCall n fm mt)) := PE.imp (pe_callS F hr hg hm hk hb (passAt tk) ha hdb he hpl) fun σ H Q ⟨et, env, h, hE, hH, hP⟩ =>
  ⟨et, env, h, hE, hH, (Pst.of_bind hP).imp fun et1 H1 h1 ds p e hr q vs hv => FSp.of_call hv hr q⟩
theorem me_call0 (F : FnOk X.prog X.w X.K X.mg X.base (L2.CX X.prog X.w) k f fd ps (FSp G n fm)) (hr : Room k X.A) (hm : X.mg x = some (.ref f)) (hk : PySem.W.keepIn X.K (.ref f) = true) (hb : Binds X.K fd ps []) (tk : Takes X W)
    (hg : Gl X x := by rfl) (hdb : (x == ("__debug__" : Str)) = false := by decide) : PE X (.Call (.Name x p) [] [] pos) (tE G W (mCall n fm mNil)) := by
  refine ⟨fun pins s σ H Q I ⟨et, env, h, hE, hH, hP⟩ => ?_⟩
  refine wpAny_Call_Name_kw (ld_glob I hg hm ?_ hdb)
  exact PySem.W.callWith_K0 I.kIn hk (run_fnS (us := []) F hr hb (passAt tk σ) I .nil (FSp.of_call (by simp) hH hP))
end

/-! ### statements -/
def RS.fin : RS → R D
  | .nx _ h => .ok .non h
  | .rt d h => .ok d h
  | .ex c d _ h => .ex c d h
  | _ => .no
def fnM (n : Nat) (m : MS) : MF := fun ds h => (m (ds.map some ++ List.replicate (n - ds.length) none) h).fin
theorem EnvR.start {G : Cf} {et : List Addr} {H : Hp} {ds : List D} {vs : List V} (r : DenL G et H ds vs) (N : List Str) : EnvR G et H (ds.map some ++ List.replicate (N.length - ds.length) none) (start N vs) := by
  have hl := r.len
  refine ⟨by unfold L2.start; simp [hl], fun i d e => ?_⟩
  by_cases hi : i < ds.length
  · rw [List.getElem?_append_left (by simpa using hi), List.getElem?_map] at e
    cases h1 : ds[i]? with
    | none => rw [h1] at e; cases e
    | some d' =>
      rw [h1] at e
      cases e
      obtain ⟨v, h2, h3⟩ := r.get h1
      refine ⟨v, ?_, h3⟩
      unfold L2.start
      rw [List.getElem?_append_left (by simp; omega), List.getElem?_map, h2]
      rfl
  · rw [List.getElem?_append_right (by simpa using hi)] at e
    have := List.mem_of_getElem? e
    simp at this
section
variable {P : Program} {w : World} {K : PySem.W.Frag} {mg : Str → Option Value} {base : Heap} {G : Cf}
theorem fnPM {x qual : Str} {st : Stmt} {f : Addr} {fd : FuncData} {N ps : List Str} {k n : Nat} {m : MS} (F : Fun K x qual st f fd) (S : FnScope N ps (defScope st)) (hn : ps.length = n)
    (hb : ∀ (cdv : Value) (A : Around) (outer : List PySem.Env) (s : Shared) (H : Hp) (E : XK), Room k (A.deeper (envOfC qual (defScope st) s.heap.objs.size f cdv)) →
      Takes (cxOf (L2.CX P w) P w K mg base N qual (defScope st) f cdv A outer s H E) (fun c d _ H => E c d H) → PassesOwn (model P w) (cxOf (L2.CX P w) P w K mg base N qual (defScope st) f cdv A outer s H E).A (cxOf (L2.CX P w) P w K mg base N qual (defScope st) f cdv A outer s H E).env (cxOf (L2.CX P w) P w K mg base N qual (defScope st) f cdv A outer s H E).xe →
      PSs (cxOf (L2.CX P w) P w K mg base N qual (defScope st) f cdv A outer s H E) (defBody st) (tS G (fun c d _ H => E c d H) m)) : FnOk P w K mg base (L2.CX P w) (k + 1) f fd ps (FSp G n (fnM N.length m)) := by
  refine F.okX S (fun vs H Q E h => h.1.trans hn.symm) fun cdv A outer s H vs Q E hr ⟨hl, et, ds, h, hv, hH, hP⟩ => ⟨_, hb cdv A outer s H E hr (takes_of rfl rfl rfl rfl) (passes_of rfl), ?_⟩
  refine ⟨et, _, h, EnvR.start hv N, hH, ?_⟩
  unfold fnM at hP
  revert hP
  generalize m (ds.map some ++ List.replicate (N.length - ds.length) none) h = r
  intro hP
  cases r with
  | nx e h1 => exact fun et' H' σ' p ex hr _ => hP et' H' p ex hr _ (by simp)
  | rt d h1 => exact fun et' H' v p ex hr hv => hP et' H' p ex hr v hv
  | ex c d e h1 => exact fun et' H' σ' cls dd p ex hr _ hx => hP et' H' cls dd p ex hr hx
  | bk e h1 => exact hP.elim
  | ct e h1 => exact hP.elim
  | no => exact hP.elim
end
end NR

set_option Elab.async false
set_option linter.all false
set_option maxRecDepth 100000
/-! Statements, loops. -/
namespace NR
open PySem PySem.Spec PyProof.Rows L2

def RS.then (r : RS) (k : EV → IH → RS) : RS := match r with
  | .nx e h => k e h
  | r => r
def msNil : MS := fun env h => .nx env h
def msCons (a b : MS) : MS := fun env h => (a env h).then b
def msRet (m : ME) : MS := fun env h => (m env h).bindS env fun d h1 => .rt d h1
def msRetN : MS := fun _ h => .rt .non h
def msIf (t : MT) (a b : MS) : MS := fun env h => (t env h).bindS env fun c h1 => if c = true then a env h1 else b env h1
def msSet (i : Nat) (m : ME) : MS := fun env h => (m env h).bindS env fun d h1 => .nx (env.set i (some d)) h1
def msExpr (m : ME) : MS := fun env h => (m env h).bindS env fun _ h1 => .nx env h1
def msBreak : MS := fun env h => .bk env h
def msCont : MS := fun env h => .ct env h
def msNo : MS := fun _ _ => .no

section
variable {G : Cf} {et et' : List Addr} {H H' : Hp} {h h' : IH} {env : EV} {σ : L2.St} {D0 : Ends} {W : WX} {A : Type}
/-- behind an expression, a statement goes on -/
theorem PstS.of_bind {r : R A} {k : A → IH → RS} (hE : EnvR G et H env σ) (x : PstS G et H (r.bindS env k) D0 W) :
    Pst G et H r (fun et1 H1 h1 a => PstS G et1 H1 (k a h1) D0 W) (fun c d H' => W c d σ H') := by
  cases r with
  | ok a h1 =>
    intro et1 H1 p e hr
    have y : PstS G et H (k a h1) D0 W := x
    show PstS G et1 H1 (k a h1) D0 W
    cases hk : k a h1 with
    | nx b h2 => rw [hk] at y; exact fun et2 H2 σ' p2 e2 hr2 => y et2 H2 σ' (p.trans p2) (e.trans e2) hr2
    | bk b h2 => rw [hk] at y; exact fun et2 H2 σ' p2 e2 hr2 => y et2 H2 σ' (p.trans p2) (e.trans e2) hr2
    | ct b h2 => rw [hk] at y; exact fun et2 H2 σ' p2 e2 hr2 => y et2 H2 σ' (p.trans p2) (e.trans e2) hr2
    | rt b h2 => rw [hk] at y; exact fun et2 H2 v p2 e2 hr2 => y et2 H2 v (p.trans p2) (e.trans e2) hr2
    | ex c d b h2 => rw [hk] at y; exact fun et2 H2 σ' cls dd p2 e2 hr2 => y et2 H2 σ' cls dd (p.trans p2) (e.trans e2) hr2
    | no => rw [hk] at y; exact y
  | ex c d h1 => exact fun et1 H1 cls dd p e hr hx => x et1 H1 σ cls dd p e hr (hE.mono p e) hx
  | no => exact x
theorem PstS.weak {r : RS} (p : et <+: et') (e : Ext H H') (x : PstS G et H r D0 W) : PstS G et' H' r D0 W := by
  cases r with
  | nx b h2 => exact fun et2 H2 σ' p2 e2 hr2 => x et2 H2 σ' (p.trans p2) (e.trans e2) hr2
  | bk b h2 => exact fun et2 H2 σ' p2 e2 hr2 => x et2 H2 σ' (p.trans p2) (e.trans e2) hr2
  | ct b h2 => exact fun et2 H2 σ' p2 e2 hr2 => x et2 H2 σ' (p.trans p2) (e.trans e2) hr2
  | rt b h2 => exact fun et2 H2 v p2 e2 hr2 => x et2 H2 v (p.trans p2) (e.trans e2) hr2
  | ex c d b h2 => exact fun et2 H2 σ' cls dd p2 e2 hr2 => x et2 H2 σ' cls dd (p.trans p2) (e.trans e2) hr2
  | no => exact x
end

section
variable {X : Cx} {G : Cf} {W : WX} {st : Stmt} {rest : List Stmt} {a b : MS} {e c : Expr} {me : ME} {mt : MT} {pos : Pos}
theorem mss_nil : PSs X [] (tS G W msNil) := PSs.imp pss_nil fun D σ H ⟨et, env, h, hE, hH, hP⟩ => hP et H σ List.prefix_rfl (Ext.refl H) hH hE
theorem mss_cons (h1 : PS X st (tS G W a)) (h2 : PSs X rest (tS G W b)) : PSs X (st :: rest) (tS G W (msCons a b)) := PSs.imp (pss_cons h1 h2) fun D σ H ⟨et, env, h, hE, hH, hP⟩ => by
  refine ⟨et, env, h, hE, hH, ?_⟩
  unfold msCons at hP
  revert hP
  generalize a env h = r
  intro hP
  cases r with
  | nx e1 h1 => exact fun et' H' σ' p e hr hE' => ⟨et', e1, h1, hE', hr, PstS.weak p e hP⟩
  | bk b h2 => exact hP
  | ct b h2 => exact hP
  | rt b h2 => exact hP
  | ex c d b h2 => exact hP
  | no => exact hP
theorem mss_one (h1 : PS X st (tS G W a)) : PSs X [st] (tS G W a) := pss_one h1
theorem ms_pass : PS X (.Pass pos) (tS G W msNil) := PS.imp ps_pass fun D σ H ⟨et, env, h, hE, hH, hP⟩ => hP et H σ List.prefix_rfl (Ext.refl H) hH hE
theorem ms_doc {x : Str} {j : Nat} {pos' : Pos} : PS X (.Expr (.Constant (.str x) j pos) pos') (tS G W msNil) := PS.imp ps_doc fun D σ H ⟨et, env, h, hE, hH, hP⟩ => hP et H σ List.prefix_rfl (Ext.refl H) hH hE
theorem ms_break : PS X (.Break pos) (tS G W msBreak) := PS.imp ps_break fun D σ H ⟨et, env, h, hE, hH, hP⟩ => hP et H σ List.prefix_rfl (Ext.refl H) hH hE
theorem ms_continue : PS X (.Continue pos) (tS G W msCont) := PS.imp ps_continue fun D σ H ⟨et, env, h, hE, hH, hP⟩ => hP et H σ List.prefix_rfl (Ext.refl H) hH hE
theorem ms_no : PS X st (tS G W msNo) := PS.imp ps_never fun D σ H ⟨et, env, h, hE, hH, hP⟩ => hP
theorem mss_no {sts : List Stmt} : PSs X sts (tS G W msNo) := PSs.imp pss_never fun D σ H ⟨et, env, h, hE, hH, hP⟩ => hP
theorem ms_ret (he : PE X e (tE G W me)) : PS X (.Return (some e) pos) (tS G W (msRet me)) := PS.imp (ps_ret he) fun D σ H ⟨et, env, h, hE, hH, hP⟩ =>
  ⟨et, env, h, hE, hH, (PstS.of_bind hE hP).imp fun et1 H1 h1 d p e hr q v hv => q et1 H1 v List.prefix_rfl (Ext.refl _) hr hv⟩
theorem ms_retN : PS X (.Return none pos) (tS G W msRetN) := PS.imp ps_retN fun D σ H ⟨et, env, h, hE, hH, hP⟩ => hP et H .non List.prefix_rfl (Ext.refl _) hH (by simp)
theorem ms_if {s1 s2 : List Stmt} (hc : PT X c (tT G W mt)) (ha : PSs X s1 (tS G W a)) (hb : PSs X s2 (tS G W b)) : PS X (.If c s1 s2 pos) (tS G W (msIf mt a b)) := PS.imp (ps_if hc ha hb) fun D σ H ⟨et, env, h, hE, hH, hP⟩ => by
  refine ⟨et, env, h, hE, hH, (PstS.of_bind hE hP).imp fun et1 H1 h1 k p e hr q => ?_⟩
  cases k with
  | true => rw [if_pos rfl] at q ⊢; exact ⟨et1, env, h1, hE.mono p e, hr, q⟩
  | false => rw [if_neg Bool.false_ne_true] at q ⊢; exact ⟨et1, env, h1, hE.mono p e, hr, q⟩
theorem ms_set (i : Nat) {x : Str} {pos' : Pos} (hN : X.N.Nodup) (he : PE X e (tE G W me)) (hi : X.N[i]? = some x := by rfl) (hx : Loc X.env.scope x := by first | exact Or.inl rfl | exact Or.inr rfl) (hs : swapsWith e (some (.Name x pos')) pos.line X.env = pure false := by rfl)
    (hf : X.fn x = true ∨ X.env.scope.names.lookup x = some .local := by first | exact .inl rfl | exact .inr rfl) : PS X (.Assign [.Name x pos'] e pos) (tS G W (msSet i me)) := PS.imp (ps_set hN hi hx he hs hf) fun D σ H ⟨et, env, h, hE, hH, hP⟩ =>
  ⟨et, env, h, hE, hH, (PstS.of_bind hE hP).imp fun et1 H1 h1 d p e hr q v hv => q et1 H1 _ List.prefix_rfl (Ext.refl _) hr ((hE.mono p e).set i hv)⟩
theorem ms_expr (he : PE X e (tE G W me)) (hs : swapsWith e none pos.line X.env = pure false := by rfl) : PS X (.Expr e pos) (tS G W (msExpr me)) := PS.imp (ps_expr he hs) fun D σ H ⟨et, env, h, hE, hH, hP⟩ =>
  ⟨et, env, h, hE, hH, (PstS.of_bind hE hP).imp fun et1 H1 h1 d p e hr q v hv => q et1 H1 σ List.prefix_rfl (Ext.refl _) hr (hE.mono p e)⟩
end

/-! ### op=, stores -/
def msAug (i : Nat) (f : D → D → IH → R D) (m : ME) : MS := fun env h => match env[i]? with
  | some (some x) => (m env h).bindS env fun y h1 => (f x y h1).bindS env fun z h2 => .nx (env.set i (some z)) h2
  | _ => .no
/-- in place: ints, texts, a list that grows -/
def dIAdd : D → D → IH → R D
  | .int i, .int j, h => .ok (.int (i + j)) h
  | .str a, .str b, h => if a.length + b.length ≤ 10000000 then .ok (.str (a ++ b)) h else .no
  | _, _, _ => .no
def dISub : D → D → IH → R D
  | .int i, .int j, h => .ok (.int (i - j)) h
  | _, _, _ => .no
section
variable {X : Cx} {G : Cf} {W : WX} {a b e o i : Expr} {me mo mi : ME} {pos : Pos} {r : R2} {f : D → D → IH → R D}
theorem ms_aug (n : Nat) {x : Str} {op : Operator} {pos' : Pos} (hN : X.N.Nodup) (ho : OpR X (inplaceOp op) r) (hs : OpS G r f) (he : PE X e (tE G W me)) (hi : X.N[n]? = some x := by rfl) (hx : Loc X.env.scope x := by first | exact Or.inl rfl | exact Or.inr rfl)
    (hf : X.fn x = true ∨ X.env.scope.names.lookup x = some .local := by first | exact .inl rfl | exact .inr rfl) : PS X (.AugAssign (.Name x pos') op e pos) (tS G W (msAug n f me)) := PS.imp (ps_aug hN hi hx he (ti := r) ho hf) fun D σ H ⟨et, env, h, hE, hH, hP⟩ => by
  unfold msAug at hP
  split at hP
  · rename_i x0 hx0
    obtain ⟨v0, e0, r0⟩ := hE.2 n x0 hx0
    refine ⟨v0, e0, et, env, h, hE, hH, (PstS.of_bind hE hP).imp fun et1 H1 h1 y p e hr q w hw => ?_⟩
    exact hs et1 H1 h1 x0 y v0 w _ _ (r0.mono p e) hw hr ((PstS.of_bind (hE.mono p e) q).imp fun et2 H2 h2 z p2 e2 hr2 q2 u hu => q2 et2 H2 _ List.prefix_rfl (Ext.refl _) hr2 (((hE.mono p e).mono p2 e2).set n hu))
  · exact hP.elim
theorem iadd_ok : OpS G (fun x y H Q => rI0 (fun i j => .int (i + j)) x y H Q ∨ (∃ i j, x = .str i ∧ y = .str j ∧ i.length + j.length ≤ sizeLine ∧ Q (.str (i ++ j)) H)) dIAdd := by
  intro et H h x y v w W Q rx ry R p
  unfold dIAdd at p
  split at p
  · exact .inl ⟨_, _, den_int.mp rx, den_int.mp ry, p.here R _ (by simp)⟩
  · split at p
    · rename_i c
      refine .inr ⟨_, _, den_str.mp rx, den_str.mp ry, ?_, ?_⟩
      · rw [strV_length, strV_length]; exact sz c
      · exact p.here R _ (by simp [strV_app])
    · exact p.elim
  · exact p.elim
theorem iop_addA : OpR X (inplaceOp .Add) (fun x y H Q => rI0 (fun i j => .int (i + j)) x y H Q ∨ (∃ i j, x = .str i ∧ y = .str j ∧ i.length + j.length ≤ sizeLine ∧ Q (.str (i ++ j)) H)) := OpR.or iop_add iop_add_str
theorem isub_ok : OpS G (rI0 fun i j => .int (i - j)) dISub := by
  intro et H h x y v w W Q rx ry R p
  unfold dISub at p
  split at p
  · exact ⟨_, _, den_int.mp rx, den_int.mp ry, p.here R _ (by simp)⟩
  · exact p.elim
theorem idiv_ok : OpS G (rI CDivW fun i j => .int (i / j)) dDiv := opS_I fun i j c => by
    have c' : 0 < j ∧ j < 2 ^ 64 := by simpa [cDiv] using c
    exact wide_div c'.1 (b := 64) (by omega) (by decide) (by decide)
theorem imod_ok : OpS G (rI (fun _ j => 0 < j) fun i j => .int (i % j)) dMod := opS_I fun i j c => by simpa [cMod] using c
end
/-- the place of an item, from either end -/
def ixD (n : Nat) (i : Int) : Option Nat := ixN n i
/-- o[i] = v: a list's item -/
def putD (o i v : D) (h : IH) : Option IH := match o, i with
  | .ref n, .int k => match h[n]? with
    | some (.lst xs) => (ixN xs.length k).map fun j => h.set n (.lst (xs.set j v))
    | _ => none
  | _, _ => none
def msSetI (mo mi me : ME) : MS := fun env h => (me env h).bindS env fun v h1 => (mo env h1).bindS env fun o h2 => (mi env h2).bindS env fun i h3 => match putD o i v h3 with
  | some h4 => .nx env h4
  | none => .no
section
variable {G : Cf} {et : List Addr} {H : Hp} {h h' : IH}
theorem put_ok (R : HRel G et h H) {o i v : D} {vo vi vv : V} {Q : Hp → Prop} (e : putD o i v h = some h') (ro : Den G et H o vo) (ri : Den G et H i vi) (rv : Den G et H v vv) (q : ∀ H', Ext H H' → HRel G et h' H' → Q H') : rSetL vo vi vv H Q := by
  unfold putD at e
  split at e
  · rename_i n k
    split at e
    · rename_i xs hx
      simp only [Option.map_eq_some_iff] at e
      obtain ⟨j, e1, rfl⟩ := e
      obtain ⟨a, vs, h1, rfl, h2, h3⟩ := den_list R hx ro
      refine ⟨a, vs, k, j, rfl, den_int.mp ri, h2, by rw [h3.len]; exact e1, ?_⟩
      have ex : Ext H (upd H a (.lst (vs.set j vv))) := Ext.mut h2 True.intro
      exact q _ ex (R.set hx h1 rfl h2 True.intro ⟨_, upd_same, (h3.set j rv).mono List.prefix_rfl ex⟩)
    · cases e
  · cases e
end
section
variable {X : Cx} {G : Cf} {W : WX} {a b e o i : Expr} {me mo mi : ME} {pos pos' : Pos} {r : R2} {f : D → D → IH → R D}
theorem ms_setI (he : PE X e (tE G W me)) (ho : PE X o (tE G W mo)) (hi : PE X i (tE G W mi)) (ha : ∀ v, assign (.Subscript o i pos') X.env v = (do
      let ov ← holding [v] (eval o X.env)
      let iv ← holding [v, ov] (eval i X.env)
      standAt pos'
      holding [v, ov, iv] (setItem ov iv v)
      release [v, ov, iv] []) := by intro _; rfl) (hs : swapsWithSole [.Subscript o i pos'] e pos.line X.env = pure false := by rfl) (hw : swappedStores [.Subscript o i pos'] e X.env = pure none := by rfl)
    (h1 : (assignEach [.Subscript o i pos'] X.env).map (·.2) = [assign (.Subscript o i pos') X.env] := by rfl) : PS X (.Assign [.Subscript o i pos'] e pos) (tS G W (msSetI mo mi me)) :=
  PS.imp (ps_asg he (pg_sub ho hi set_list ha) hs hw h1) fun D σ H ⟨et, env, h, hE, hH, hP⟩ => by
    refine ⟨et, env, h, hE, hH, (PstS.of_bind hE hP).imp fun et1 H1 h1 v p e hr q vv hv => ?_⟩
    have hE1 := hE.mono p e
    refine ⟨et1, env, h1, hE1, hr, (PstS.of_bind hE1 q).imp fun et2 H2 h2 o p2 e2 hr2 q2 vo ho => ?_⟩
    have hE2 := hE1.mono p2 e2
    refine ⟨et2, env, h2, hE2, hr2, (PstS.of_bind hE2 q2).imp fun et3 H3 h3 i p3 e3 hr3 q3 vi hi => ?_⟩
    have hE3 := hE2.mono p3 e3
    split at q3
    · rename_i h4 e4
      exact put_ok hr3 e4 (ho.mono p3 e3) hi ((hv.mono p2 e2).mono p3 e3) fun H' ex hr4 => q3 et3 H' σ List.prefix_rfl ex hr4 (hE3.mono List.prefix_rfl ex)
    · exact q3.elim
end
/-- o[i], by values -/
def getD' (o i : D) (h : IH) : R D := match i with
  | .int k => match o with
    | .str s => match (ixN s.length k).bind fun j => s[j]? with
      | some c => if s.length ≤ 10000000 then .ok (.str [c]) h else .no
      | none => .no
    | o => match (seqOf h o).bind fun xs => (ixN xs.length k).bind fun j => xs[j]? with
      | some d => .ok d h
      | none => .no
  | _ => .no
abbrev dIx : D → D → IH → R D := fun o i h => getD' o i h
section
variable {X : Cx} {G : Cf} {W : WX} {a b e o i : Expr} {ma mb me mo mi : ME} {pos pos' : Pos} {r : R2} {f : D → D → IH → R D}
theorem atI_den {et : List Addr} {H : Hp} {xs : List D} {vs : List V} (r : DenL G et H xs vs) {k : Int} {d : D} (e : ((ixN xs.length k).bind fun j => xs[j]?) = some d) : ∃ v, atI vs k = some v ∧ Den G et H d v := by
  simp only [Option.bind_eq_some_iff] at e
  obtain ⟨j, e1, e2⟩ := e
  obtain ⟨v, h1, h2⟩ := r.get e2
  exact ⟨v, by unfold atI; rw [r.len, e1]; exact h1, h2⟩
theorem dIx_ok : OpS G (rIx G.K) dIx := by
  intro et H h x y v w W Q rx ry R p
  unfold dIx getD' at p
  split at p
  · rename_i k
    split at p
    · rename_i s
      split at p
      · rename_i c hc
        split at p
        · rename_i l
          refine .inr (.inr ⟨strV s, k, c, den_str.mp rx, den_int.mp ry, by rw [strV_length]; exact sz l, ?_, p.here R _ (by simp [strV])⟩)
          unfold atI
          simpa [strV] using hc
        · exact p.elim
      · exact p.elim
    · split at p
      · rename_i d hd
        simp only [Option.bind_eq_some_iff] at hd
        obtain ⟨xs, e1, e2⟩ := hd
        obtain ⟨a, vs, rfl, h1, h2⟩ := seq_ok R e1 rx
        obtain ⟨u, e3, r3⟩ := atI_den h2 (k := k) (by simpa only [Option.bind_eq_some_iff] using e2)
        rcases h1 with h1 | h1
        · exact .inl ⟨a, vs, k, u, rfl, den_int.mp ry, h1, e3, p.here R _ r3⟩
        · exact .inr (.inl ⟨a, vs, k, u, rfl, den_int.mp ry, h1, e3, p.here R _ r3⟩)
      · exact p.elim
  · exact p.elim
theorem me_ix (hK : X.K = G.K) (ha : PE X a (tE G W ma)) (hb : PE X b (tE G W mb)) (hs : PlainIx b := by exact fun _ _ => rfl) : PE X (.Subscript a b pos) (tE G W (mOp dIx ma mb)) := by
  refine PE.imp (pe_ix (r := rIx X.K) ix_seq ha hb hs) fun σ H Q x => ?_
  rw [hK]
  exact tOp_of dIx_ok x
/-! slices -/
def cutD (xs : List D) (lo hi : Option Int) : List D := (xs.drop (HT.sIx xs.length 0 lo)).take (HT.sIx xs.length xs.length hi - HT.sIx xs.length 0 lo)
def cutN (xs : List Nat) (lo hi : Option Int) : List Nat := (xs.drop (HT.sIx xs.length 0 lo)).take (HT.sIx xs.length xs.length hi - HT.sIx xs.length 0 lo)
abbrev MO := EV → IH → R (Option Int)
def moNone : MO := fun _ h => .ok none h
def moSome (m : ME) : MO := fun env h => (m env h).bind fun d h1 => match d with
  | .int i => .ok (some i) h1
  | _ => .no
def tO (G : Cf) (W : WX) (m : MO) : TO := fun σ H Q => ∃ et env h, EnvR G et H env σ ∧ HRel G et h H ∧
  Pst G et H (m env h) (fun _ H' _ o => Q o H') (fun c d H' => W c d σ H')
def sliceD (x : D) (lo hi : Option Int) (h : IH) : R D := match x with
  | .str s => if s.length ≤ 10000000 then .ok (.str (cutN s lo hi)) h else .no
  | .tup l => .ok (.tup (cutD l lo hi)) h
  | x => match lstOf h x with
    | some xs => .ok (.ref h.length) (h ++ [.lst (cutD xs lo hi)])
    | none => .no
def mSlice (m : ME) (lo hi : MO) : ME := fun env h => (m env h).bind fun x h1 => (lo env h1).bind fun l h2 => (hi env h2).bind fun u h3 => sliceD x l u h3
def rSlAll (K : PySem.W.Frag) : V → Option Int → Option Int → Hp → VK → Prop := fun x lo hi H Q => rSlL K x lo hi H Q ∨ rSlA K x lo hi H Q ∨ rSlS x lo hi H Q
theorem sl_all : SlR X (rSlAll X.K) := SlR.or sl_list (SlR.or sl_tupA sl_str)
end
end NR

set_option Elab.async false
set_option linter.all false
set_option maxRecDepth 100000
/-! Slices, calls of built-ins, methods, loops. -/
namespace NR
open PySem PySem.Spec PyProof.Rows L2
section
variable {X : Cx} {G : Cf} {W : WX} {a b e o i : Expr} {ma mb me : ME} {mo1 mo2 : MO} {pos pos' p2 : Pos} {lo hi : Option Expr}
theorem moN : PO X none (tO G W moNone) := ⟨fun pins s σ H Q I ⟨et, env, h, hE, hH, hP⟩ => po_none.run pins s σ H Q I (hP.here hH)⟩
theorem moS (he : PE X e (tE G W me)) : PO X (some e) (tO G W (moSome me)) := ⟨fun pins s σ H Q I ⟨et, env, h, hE, hH, hP⟩ => (po_some he).run pins s σ H Q I ⟨et, env, h, hE, hH, (Pst.of_bind hP).imp fun et1 H1 h1 d p e hr q v hv => by
    cases d with
    | int k => exact ⟨k, den_int.mp hv, q.here hr⟩
    | _ => exact q.elim⟩⟩
theorem slice_ok {et : List Addr} {H : Hp} {h : IH} (R : HRel G et h H) {x : D} {vx : V} {l u : Option Int} {Q : VK} {W0 : Value → Option Addr → Hp → Prop} (rx : Den G et H x vx)
    (p : Pst G et H (sliceD x l u h) (fun et' H' _ d => ∀ v, Den G et' H' d v → Q v H') W0) : rSlAll G.K vx l u H Q := by
  unfold sliceD at p
  split at p
  · split at p
    · rename_i s c
      refine .inr (.inr ⟨strV s, den_str.mp rx, by rw [strV_length]; exact sz c, p.here R _ ?_⟩)
      rw [den_str]
      unfold cutS cutN
      rw [strV_length]
      simp [strV]
    · exact p.elim
  · rename_i l0
    obtain ⟨a, vs, rfl, h1, h2⟩ := den_tup.mp rx
    refine .inr (.inl ⟨a, vs, rfl, h1, fun c => ?_, fun _ => ?_⟩)
    · refine p.here R _ (den_tup.mpr ⟨a, vs, rfl, h1, ?_⟩)
      have e : cutD l0 l u = l0 := by
        unfold cutD
        rw [h2.len] at c
        rw [c.1, c.2]
        simp
      rw [e]; exact h2
    · have h3 : DenL G et H (cutD l0 l u) (cutV vs l u) := by
        unfold cutD cutV
        rw [h2.len]
        exact (h2.drop _).take _
      exact p.newT R h3
  · split at p
    · rename_i xs hx
      obtain ⟨a, vs, rfl, h1, h2⟩ := lst_ok R hx rx
      have h3 : DenL G et H (cutD xs l u) (cutV vs l u) := by
        unfold cutD cutV
        rw [h2.len]
        exact (h2.drop _).take _
      exact .inl ⟨a, vs, rfl, h1, p.newL R h3⟩
    · exact p.elim
theorem me_slice (hK : X.K = G.K) (ha : PE X e (tE G W me)) (h1 : PO X lo (tO G W mo1)) (h2 : PO X hi (tO G W mo2)) : PE X (.Subscript e (.Slice lo hi none p2) pos) (tE G W (mSlice me mo1 mo2)) :=
  PE.imp (pe_slice sl_all ha h1 h2) fun σ H Q ⟨et, env, h, hE, hH, hP⟩ => by
    refine ⟨et, env, h, hE, hH, (Pst.of_bind hP).imp fun et1 H1 h1 x p e hr q v hv => ?_⟩
    have hE1 := hE.mono p e
    refine ⟨et1, env, h1, hE1, hr, (Pst.of_bind q).imp fun et2 H2 h2 l p2 e2 hr2 q2 => ?_⟩
    have hE2 := hE1.mono p2 e2
    refine ⟨et2, env, h2, hE2, hr2, (Pst.of_bind q2).imp fun et3 H3 h3 u p3 e3 hr3 q3 => ?_⟩
    rw [hK]
    exact slice_ok hr3 ((hv.mono p2 e2).mono p3 e3) q3
end

/-! ### built-ins by values -/
def CallS (G : Cf) (r : List V → Hp → VK → Prop) (f : List D → IH → R D) : Prop := ∀ (et : List Addr) (H : Hp) (h : IH) (xs : List D) (vs : List V) (W : Value → Option Addr → Hp → Prop) (Q : VK), DenL G et H xs vs → HRel G et h H →
  Pst G et H (f xs h) (fun et' H' _ d => ∀ v, Den G et' H' d v → Q v H') W → r vs H Q
def mB (f : List D → IH → R D) (t : MA) : ME := fun env h => (t env h).bind fun xs h1 => f xs h1
section
variable {X : Cx} {G : Cf} {W : WX} {e : Expr} {es : List Expr} {mt : MA} {pos p : Pos} {x : Str} {r : List V → Hp → VK → Prop} {f : List D → IH → R D}
theorem me_callB {id : String} (hc : CallR X (.builtin id) r) (hs : CallS G r f) (hm : X.mg x = none) (hv : bootBuiltins x = some (.builtin id)) (ha : PA X (e :: es) (tA G W mt)) (hg : Gl X x := by rfl) (hn : x ≠ "__name__" := by decide) (hdb : (x == ("__debug__" : Str)) = false := by decide)
    (he : starEach (e :: es) X.env = (false, eval e X.env) :: starEach es X.env := by rfl) (hpl : (backTo pos (starEach es X.env)).any (·.1) = false := by rfl) : PE X (.Call (.Name x p) (e :: es) [] pos) (tE G W (mB f mt)) :=
  PE.imp (pe_callB hc hg hm hv ha hn hdb he hpl) fun σ H Q ⟨et, env, h, hE, hH, hP⟩ => ⟨et, env, h, hE, hH, (Pst.of_bind hP).imp fun et1 H1 h1 xs p e hr q vs hv => hs et1 H1 h1 xs vs _ Q hv hr q⟩
theorem me_callT {T : String} (hc : CallR X (.type T) r) (hs : CallS G r f) (hm : X.mg x = none) (hv : bootBuiltins x = some (.type T)) (ha : PA X (e :: es) (tA G W mt)) (hg : Gl X x := by rfl) (hn : x ≠ "__name__" := by decide) (hdb : (x == ("__debug__" : Str)) = false := by decide)
    (he : starEach (e :: es) X.env = (false, eval e X.env) :: starEach es X.env := by rfl) (hpl : (backTo pos (starEach es X.env)).any (·.1) = false := by rfl) : PE X (.Call (.Name x p) (e :: es) [] pos) (tE G W (mB f mt)) :=
  PE.imp (pe_callTy hc hg hm hv ha hn hdb he hpl) fun σ H Q ⟨et, env, h, hE, hH, hP⟩ => ⟨et, env, h, hE, hH, (Pst.of_bind hP).imp fun et1 H1 h1 xs p e hr q vs hv => hs et1 H1 h1 xs vs _ Q hv hr q⟩
end

def bAbs : List D → IH → R D
  | [.int i], h => .ok (.int (if i < 0 then -i else i)) h
  | _, _ => .no
def bMax2 : List D → IH → R D
  | [.int i, .int j], h => .ok (.int (if j > i then j else i)) h
  | _, _ => .no
def bMin2 : List D → IH → R D
  | [.int i, .int j], h => .ok (.int (if j < i then j else i)) h
  | _, _ => .no
def bInt1 : List D → IH → R D
  | [.int i], h => .ok (.int i) h
  | [.bl b], h => .ok (.int (if b then 1 else 0)) h
  | _, _ => .no
def bLen : List D → IH → R D
  | [.str s], h => if s.length ≤ 10000000 then .ok (.int (s.length : Nat)) h else .no
  | [.tup l], h => .ok (.int (l.length : Nat)) h
  | [.fl l], h => .ok (.int (l.length : Nat)) h
  | [.ref n], h => match h[n]? with
    | some (.lst xs) => .ok (.int (xs.length : Nat)) h
    | some (.frz xs) => .ok (.int (xs.length : Nat)) h
    | some (.dk kvs) => .ok (.int (kvs.length : Nat)) h
    | _ => .no
  | _, _ => .no
def bList : List D → IH → R D
  | [x], h => match x with
    | .str _ => .no
    | x => match seqOf h x with
      | some xs => .ok (.ref h.length) (h ++ [.lst xs])
      | none => .no
  | _, _ => .no
def bTuple : List D → IH → R D
  | [x], h => match x with
    | .str _ => .no
    | .tup l => .ok (.tup l) h
    | x => match lstOf h x with
      | some xs => .ok (.tup xs) h
      | none => .no
  | _, _ => .no
def bSum : List D → IH → R D
  | [x], h => match (lstOf h x).bind (allM D.int?) with
    | some ns => .ok (.int ns.sum) h
    | none => .no
  | _, _ => .no
def bAny : List D → IH → R D
  | [x], h => match (lstOf h x).bind (allM D.bl?) with
    | some bs => .ok (.bl (bs.any id)) h
    | none => .no
  | _, _ => .no
def bAll : List D → IH → R D
  | [x], h => match (lstOf h x).bind (allM D.bl?) with
    | some bs => .ok (.bl (bs.all id)) h
    | none => .no
  | _, _ => .no
section
variable {X : Cx} {G : Cf}
theorem list1 {et : List Addr} {H : Hp} {x : D} {vs : List V} (r : DenL G et H [x] vs) : ∃ v, vs = [v] ∧ Den G et H x v := by
  obtain ⟨v, ws, rfl, h1, h2⟩ := denL_cons.mp r
  rw [denL_nil] at h2
  subst h2
  exact ⟨v, rfl, h1⟩
theorem list2 {et : List Addr} {H : Hp} {x y : D} {vs : List V} (r : DenL G et H [x, y] vs) : ∃ v w, vs = [v, w] ∧ Den G et H x v ∧ Den G et H y w := by
  obtain ⟨v, ws, rfl, h1, h2⟩ := denL_cons.mp r
  obtain ⟨w, rfl, h3⟩ := list1 h2
  exact ⟨v, w, rfl, h1, h3⟩
theorem bAbs_ok : CallS G (fun xs H Q => ∃ i, xs = [.int i] ∧ Q (.int (if i < 0 then -i else i)) H) bAbs := by
  intro et H h xs vs W Q rv R p
  unfold bAbs at p
  split at p
  · obtain ⟨v, rfl, h1⟩ := list1 rv
    exact ⟨_, by rw [den_int.mp h1], p.here R _ (by simp)⟩
  · exact p.elim
theorem bMax2_ok : CallS G (fun xs H Q => ∃ i j, xs = [.int i, .int j] ∧ Q (.int (if j > i then j else i)) H) bMax2 := by
  intro et H h xs vs W Q rv R p
  unfold bMax2 at p
  split at p
  · obtain ⟨v, w, rfl, h1, h2⟩ := list2 rv
    exact ⟨_, _, by rw [den_int.mp h1, den_int.mp h2], p.here R _ (by simp)⟩
  · exact p.elim
theorem bMin2_ok : CallS G (fun xs H Q => ∃ i j, xs = [.int i, .int j] ∧ Q (.int (if j < i then j else i)) H) bMin2 := by
  intro et H h xs vs W Q rv R p
  unfold bMin2 at p
  split at p
  · obtain ⟨v, w, rfl, h1, h2⟩ := list2 rv
    exact ⟨_, _, by rw [den_int.mp h1, den_int.mp h2], p.here R _ (by simp)⟩
  · exact p.elim
theorem bInt1_ok : CallS G (fun xs H Q => (∃ i, xs = [.int i] ∧ Q (.int i) H) ∨ ∃ k, xs = [.bl k] ∧ Q (.int (if k then 1 else 0)) H) bInt1 := by
  intro et H h xs vs W Q rv R p
  unfold bInt1 at p
  split at p
  · obtain ⟨v, rfl, h1⟩ := list1 rv
    exact .inl ⟨_, by rw [den_int.mp h1], p.here R _ (by simp)⟩
  · obtain ⟨v, rfl, h1⟩ := list1 rv
    exact .inr ⟨_, by rw [den_bl.mp h1], p.here R _ (by simp)⟩
  · exact p.elim
def rLenA (K : PySem.W.Frag) : List V → Hp → VK → Prop := fun xs H Q => (∃ x n, xs = [x] ∧ LenV K x H n ∧ Q (.int n) H) ∨ (∃ a kvs, xs = [V.ref a] ∧ H a = some (.dK kvs) ∧ Q (.int kvs.length) H)
theorem call_lenA : CallR X (.builtin "len") (rLenA X.K) := CallR.or call_len call_lenD
theorem bLen_ok : CallS G (rLenA G.K) bLen := by
  intro et H h xs vs W Q rv R p
  unfold bLen at p
  split at p
  · split at p
    · rename_i s c
      obtain ⟨v, rfl, h1⟩ := list1 rv
      refine .inl ⟨_, s.length, rfl, ?_, p.here R _ (by simp)⟩
      rw [den_str.mp h1]
      exact ⟨by rw [strV_length]; exact sz c, by rw [strV_length]⟩
    · exact p.elim
  · rename_i l
    obtain ⟨v, rfl, h1⟩ := list1 rv
    obtain ⟨a, vs, rfl, h2, h3⟩ := den_tup.mp h1
    exact .inl ⟨_, l.length, rfl, .inr ⟨vs, h2, h3.len.symm⟩, p.here R _ (by simp)⟩
  · rename_i l
    obtain ⟨v, rfl, h1⟩ := list1 rv
    obtain ⟨a, vs, rfl, h2, h3⟩ := den_fl.mp h1
    exact .inl ⟨_, l.length, rfl, .inl ⟨vs, h2.sq, h3.len.symm⟩, p.here R _ (by simp)⟩
  · obtain ⟨v, rfl, h1⟩ := list1 rv
    obtain ⟨a, h2, rfl⟩ := den_ref.mp h1
    split at p
    · rename_i xs hx
      obtain ⟨vs, h3, h4⟩ := R.cell _ _ a hx h2
      exact .inl ⟨_, xs.length, rfl, .inl ⟨vs, SqL.of h3, h4.len.symm⟩, p.here R _ (by simp)⟩
    · rename_i xs hx
      obtain ⟨vs, h3, h4⟩ := R.cell _ _ a hx h2
      exact .inl ⟨_, xs.length, rfl, .inl ⟨vs, h3.sq, h4.len.symm⟩, p.here R _ (by simp)⟩
    · rename_i kvs hx
      obtain ⟨ws, h3, h4, h5⟩ := R.cell _ _ a hx h2
      have hl := congrArg List.length h4
      simp at hl
      exact .inr ⟨a, ws, rfl, h3, p.here R _ (by simp [hl])⟩
    · exact p.elim
  · exact p.elim
theorem bSum_ok : CallS G (rSum G.K) bSum := by
  intro et H h xs vs W Q rv R p
  unfold bSum at p
  split at p
  · split at p
    · rename_i ns e
      simp only [Option.bind_eq_some_iff] at e
      obtain ⟨ds, e1, e2⟩ := e
      obtain ⟨v, rfl, h1⟩ := list1 rv
      obtain ⟨a, vs, rfl, h2, h3⟩ := lst_ok R e1 h1
      rw [allM_ints e2] at h3
      rw [h3.ints] at h2
      exact ⟨a, ns, rfl, h2, p.here R _ (by simp)⟩
    · exact p.elim
  · exact p.elim
theorem bAny_ok : CallS G (rAny G.K) bAny := by
  intro et H h xs vs W Q rv R p
  unfold bAny at p
  split at p
  · split at p
    · rename_i ns e
      simp only [Option.bind_eq_some_iff] at e
      obtain ⟨ds, e1, e2⟩ := e
      obtain ⟨v, rfl, h1⟩ := list1 rv
      obtain ⟨a, vs, rfl, h2, h3⟩ := lst_ok R e1 h1
      rw [allM_bls e2] at h3
      rw [h3.bls] at h2
      exact ⟨a, ns, rfl, h2, p.here R _ (by simp)⟩
    · exact p.elim
  · exact p.elim
theorem bAll_ok : CallS G (rAll G.K) bAll := by
  intro et H h xs vs W Q rv R p
  unfold bAll at p
  split at p
  · split at p
    · rename_i ns e
      simp only [Option.bind_eq_some_iff] at e
      obtain ⟨ds, e1, e2⟩ := e
      obtain ⟨v, rfl, h1⟩ := list1 rv
      obtain ⟨a, vs, rfl, h2, h3⟩ := lst_ok R e1 h1
      rw [allM_bls e2] at h3
      rw [h3.bls] at h2
      exact ⟨a, ns, rfl, h2, p.here R _ (by simp)⟩
    · exact p.elim
  · exact p.elim
end
end NR

set_option Elab.async false
set_option linter.all false
set_option maxRecDepth 100000
/-! Methods, loops, comprehensions. -/
namespace NR
open PySem PySem.Spec PyProof.Rows L2

/-! ### methods of built-in types -/
def tyD (T : String) (h : IH) : D → Bool
  | .str _ => T == "str"
  | .int _ => T == "int"
  | .fl _ => T == "list"
  | .ref n => match h[n]? with
    | some (.lst _) => T == "list"
    | some (.frz _) => T == "list"
    | some (.dk _) => T == "dict"
    | _ => false
  | _ => false
def mMeth (T : String) (f : D → List D → IH → R D) (mo : ME) (mt : MA) : ME := fun env h => (mo env h).bind fun x h1 => if tyD T h1 x = true then (mt env h1).bind fun xs h2 => f x xs h2 else .no
def MethS (G : Cf) (r : V → List V → Hp → VK → Prop) (f : D → List D → IH → R D) : Prop := ∀ (et : List Addr) (H : Hp) (h : IH) (x : D) (v : V) (xs : List D) (vs : List V) (W : Value → Option Addr → Hp → Prop) (Q : VK), Den G et H x v → DenL G et H xs vs → HRel G et h H →
  Pst G et H (f x xs h) (fun et' H' _ d => ∀ v, Den G et' H' d v → Q v H') W → r v vs H Q
section
variable {X : Cx} {G : Cf} {W : WX} {o e : Expr} {es : List Expr} {mo : ME} {mt : MA} {name : Str} {apos cpos : Pos} {T id : String} {r : V → List V → Hp → VK → Prop} {f : D → List D → IH → R D}
theorem tyD_ok {et : List Addr} {H : Hp} {h : IH} (R : HRel G et h H) {x : D} {v : V} (e : tyD T h x = true) (r : Den G et H x v) : tyV G.K T v H := by
  cases x with
  | str s => rw [den_str.mp r]; exact (show T = "str" by simpa [tyD] using e)
  | int s => rw [den_int.mp r]; exact (show T = "int" by simpa [tyD] using e)
  | fl l =>
    obtain ⟨a, vs, rfl, h2, h3⟩ := den_fl.mp r
    exact .inl ⟨by simpa [tyD] using e, vs, h2.sq⟩
  | ref n =>
    obtain ⟨a, h1, rfl⟩ := den_ref.mp r
    simp only [tyD] at e
    split at e
    · rename_i xs hx
      obtain ⟨vs, h2, h3⟩ := R.cell n _ a hx h1
      exact .inl ⟨by simpa using e, vs, SqL.of h2⟩
    · rename_i xs hx
      obtain ⟨vs, h2, h3⟩ := R.cell n _ a hx h1
      exact .inl ⟨by simpa using e, vs, h2.sq⟩
    · rename_i xs hx
      obtain ⟨vs, h2, h3⟩ := R.cell n _ a hx h1
      exact .inr (.inr (.inl ⟨by simpa using e, .inl ⟨vs, h2⟩⟩))
    · cases e
  | _ => simp [tyD] at e
theorem me_meth (hK : X.K = G.K) (pa : PlainAttrs T) (slot : Slot T name id) (hty : typeOf (.builtin id) = pure (.type "method_descriptor")) (hm : MtR X id r) (hs : MethS G r f) (ho : PE X o (tE G W mo)) (ha : PA X (e :: es) (tA G W mt))
    (hbase : attributeBase o name X.env (eval o X.env) = eval o X.env := by rfl) (hall : ((backTo cpos (starEach (e :: es) X.env)).all (!·.1) && (backToKw cpos (keywordEach [] X.env)).all (·.1.isSome) && decide ((e :: es).length + ([] : List Keyword).length + (if ([] : List Keyword).isEmpty = true then 0 else 1) < 30)) = true := by rfl)
    (hline : (apos.endLine == cpos.line) = true := by rfl) (he : starEach (e :: es) X.env = (false, eval e X.env) :: starEach es X.env := by rfl) (hpl : (backTo cpos (starEach es X.env)).any (·.1) = false := by rfl) :
    PE X (.Call (.Attribute o name apos) (e :: es) [] cpos) (tE G W (mMeth T f mo mt)) := PE.imp (pe_bm pa slot hty hm ho ha hbase hall hline he hpl) fun σ H Q ⟨et, env, h, hE, hH, hP⟩ => by
  refine ⟨et, env, h, hE, hH, (Pst.of_bind hP).imp fun et1 H1 h1 x p e hr q v hv => ?_⟩
  split at q
  · rename_i ht
    rw [hK]
    exact ⟨tyD_ok hr ht hv, et1, env, h1, hE.mono p e, hr, (Pst.of_bind q).imp fun et2 H2 h2 xs p2 e2 hr2 q2 vs hvs => hs et2 H2 h2 x v xs vs _ Q (hv.mono p2 e2) hvs hr2 q2⟩
  · exact q.elim
end
def fAppend : D → List D → IH → R D
  | .ref n, [y], h => match h[n]? with
    | some (.lst xs) => if xs.length < 10000000 then .ok .non (h.set n (.lst (xs ++ [y]))) else .no
    | _ => .no
  | _, _, _ => .no
def rExtendR : V → List V → Hp → VK → Prop := fun x vs H Q => ∃ l b xs zs, x = .ref l ∧ vs = [.ref b] ∧ H l = some (.lst xs) ∧ Rd H b (.lst zs) ∧ xs.length + zs.length ≤ sizeLine ∧ Q .non (upd H l (.lst (xs ++ zs)))
theorem mt_extendR {X : Cx} : MtM X "list.extend" rExtendR := by
  intro pins s σ H x vs v us Q I rx rv h
  obtain ⟨l, b, xs, zs, rfl, rfl, hH, hB, hz, q⟩ := h
  cases rx
  obtain ⟨u, rfl, ru⟩ := rv.one
  cases ru
  obtain ⟨z, its, n, r, hl, e⟩ := I.lstM hH
  obtain ⟨z2, its2, n2, r2, e2⟩ := Inv.lstR I hB
  have hl2 := r2.length
  have hsz : its.toArray.size + its2.toArray.size ≤ sizeLine := by rw [List.size_toArray, List.size_toArray]; omega
  have hlong : ¬ (!its.toArray.isEmpty && Builtin.List.listTooLong (its.toArray.size + its2.toArray.size)) = true := by
    rw [notLongL hsz, Bool.and_false]
    exact Bool.false_ne_true
  refine call_meets F.slot_list_extend ⟨_, e, rfl⟩ F.entry_list_extend (F.args_list_extend_2 _ _)
    (AutoSeq1.list_extend_list_list_0 l its.toArray n b its2.toArray n2 hlong (by rw [List.size_toArray]; omega) (by omega)) ⟨e, e2, ?_⟩
  refine ⟨.non, _, I.lset (its' := its ++ its2) hH e (by simp) (r.append r2) ?_, rfl, q⟩
  rw [List.length_append]
  omega
def fExtend : D → List D → IH → R D
  | .ref n, [y], h => match h[n]?, lsOf h y with
    | some (.lst xs), some ys => if xs.length + ys.length ≤ 10000000 then .ok .non (h.set n (.lst (xs ++ ys))) else .no
    | _, _ => .no
  | _, _, _ => .no
def joinN (a : List Nat) : List (List Nat) → List Nat
  | [] => []
  | [x] => x
  | x :: y :: r => x ++ a ++ joinN a (y :: r)
def fJoin : D → List D → IH → R D
  | .str a, [y], h => match (seqOf h y).bind (allM D.str?) with
    | some ys => if (ys.map List.length).sum + ys.length * a.length ≤ 10000000 then .ok (.str (joinN a ys)) h else .no
    | none => .no
  | _, _, _ => .no
theorem glue_fold (a : List Nat) : ∀ (ys : List (List Nat)) (x : List Nat), (ys.map strV).foldl (fun acc p => acc ++ (strV a).cps ++ p.cps) (strV x).cps = (strV (joinN a (x :: ys))).cps
  | [], x => rfl
  | y :: ys, x => by
    have ih := glue_fold a ys (x ++ a ++ y)
    rw [List.map_cons, List.foldl_cons]
    have e1 : (strV x).cps ++ (strV a).cps ++ (strV y).cps = (strV (x ++ a ++ y)).cps := by simp [strV]
    rw [e1, ih]
    congr 2
    cases ys with
    | nil => simp [joinN]
    | cons z zs => simp [joinN]
theorem join_ok (a : List Nat) (ys : List (List Nat)) : Txt.join (strV a) (ys.map strV) = strV (joinN a ys) := by
  show Builtin.Str.glued _ _ = _
  unfold Builtin.Str.glued
  cases ys with
  | nil => rfl
  | cons y ys =>
    simp only [List.map_cons, List.drop_succ_cons, List.drop_zero, List.headD_cons]
    rw [glue_fold]
section
variable {X : Cx} {G : Cf}
theorem fAppend_ok : MethS G rAppend fAppend := by
  intro et H h x v xs vs W Q rx rv R p
  unfold fAppend at p
  split at p
  · split at p
    · split at p
      · rename_i n y ys hx c
        obtain ⟨w, rfl, h1⟩ := list1 rv
        obtain ⟨a, us, h2, rfl, h3, h4⟩ := den_list R hx rx
        refine ⟨a, us, w, rfl, rfl, h3, ?_, ?_⟩
        · rw [h4.len, sizeLine_eq]; omega
        · have ex : Ext H (upd H a (.lst (us ++ [w]))) := Ext.mut h3 True.intro
          exact p et _ List.prefix_rfl ex (R.set hx h2 rfl h3 True.intro ⟨_, upd_same, (h4.app (denL_cons.mpr ⟨w, [], rfl, h1, by simp⟩)).mono List.prefix_rfl ex⟩) _ (by simp)
      · exact p.elim
    · exact p.elim
  · exact p.elim
theorem fExtend_ok : MethS G rExtendR fExtend := by
  intro et H h x v xs vs W Q rx rv R p
  unfold fExtend at p
  split at p
  · split at p
    · split at p
      · rename_i n y _ _ xs' ys hx hy c
        obtain ⟨w, rfl, h1⟩ := list1 rv
        obtain ⟨a, us, h2, rfl, h3, h4⟩ := den_list R hx rx
        obtain ⟨b, ws, rfl, k3, k4⟩ := ls_ok R hy h1
        refine ⟨a, b, us, ws, rfl, rfl, h3, k3, sz (by rw [h4.len, k4.len]; exact c), ?_⟩
        have ex : Ext H (upd H a (.lst (us ++ ws))) := Ext.mut h3 True.intro
        exact p et _ List.prefix_rfl ex (R.set hx h2 rfl h3 True.intro ⟨_, upd_same, (h4.app k4).mono List.prefix_rfl ex⟩) _ (by simp)
      · exact p.elim
    · exact p.elim
  · exact p.elim
theorem sum_len (ys : List (List Nat)) : ((ys.map strV).map (·.length)).sum = (ys.map List.length).sum := by
  rw [List.map_map]
  congr 1
theorem fJoin_ok : MethS G (fun x xs H Q => ∃ a p, ∃ ys : List Str, x = .str a ∧ xs = [.ref p] ∧ (SqL G.K H p (ys.map V.str) ∨ SqT G.K H p (ys.map V.str)) ∧ (ys.map (·.length)).sum + ys.length * a.length ≤ 16777216 ∧ Q (.str (Txt.join a ys)) H) fJoin := by
  intro et H h x v xs vs W Q rx rv R p
  unfold fJoin at p
  split at p
  · rename_i a y
    split at p
    · rename_i ys e
      split at p
      · rename_i c
        obtain ⟨w, rfl, h1⟩ := list1 rv
        simp only [Option.bind_eq_some_iff] at e
        obtain ⟨ds, e1, e2⟩ := e
        obtain ⟨q, us, rfl, h2, h3⟩ := seq_ok R e1 h1
        rw [allM_strs e2] at h3
        rw [h3.strs] at h2
        refine ⟨strV a, q, ys.map strV, den_str.mp rx, rfl, h2, ?_, ?_⟩
        · rw [sum_len, strV_length, List.length_map]; omega
        · exact p.here R _ (by simp [join_ok])
      · exact p.elim
    · exact p.elim
  · exact p.elim
end

/-! ### what a loop walks -/
inductive Src where
  | st (ds : List D)
  | ls (n : Nat)
  /-- what is read of the heap each time -/
  | dy (f : IH → Option (List D))
def Src.get : Src → IH → Nat → Option D
  | .st ds, _, i => ds[i]?
  | .ls n, h, i => (lstOf h (.ref n)).bind fun xs => xs[i]?
  | .dy f, h, i => (f h).bind fun xs => xs[i]?
def Src.ok : Src → IH → Bool
  | .st _, _ => true
  | .ls n, h => (lstOf h (.ref n)).isSome
  | .dy f, h => (f h).isSome
def Src.many : Src → IH → Nat
  | .st ds, _ => ds.length
  | .ls n, h => ((lstOf h (.ref n)).getD []).length
  | .dy f, h => ((f h).getD []).length
/-- the iterator J yields what the source tells -/
def JRel (G : Cf) (et0 : List Addr) (H0 : Hp) (src : Src) (J : It) : Prop := ∀ (et : List Addr) (H : Hp) (h : IH), et0 <+: et → Ext H0 H → HRel G et h H → src.ok h = true → ∀ i : Nat,
  match src.get h i with
  | some d => J.go i H ∧ ∀ x H', J.yld i H x H' → Ext H H' ∧ HRel G et h H' ∧ Den G et H' d x
  | none => J.stop i H
abbrev MI := EV → IH → R Src
def tI (G : Cf) (W : WX) (m : MI) : TI := fun σ H R => ∃ et env h, EnvR G et H env σ ∧ HRel G et h H ∧
  Pst G et H (m env h) (fun et' H' _ src => ∀ J, JRel G et' H' src J → R J H') (fun c d H' => W c d σ H')
theorem PI.imp {X : Cx} {tg iter : Expr} {w w' : TI} (h : PI X tg iter w) (k : ∀ σ H R, w' σ H R → w σ H R) : PI X tg iter w' := ⟨fun pins s σ H R I x => h.run pins s σ H R I (k σ H R x)⟩
abbrev MG := D → EV → Option EV
/-- the target's slots ws get what they get, no other slot changes -/
def OnlyS (ws : List Nat) (σ σ' : L2.St) : Prop := σ'.length = σ.length ∧ ∀ j, j ∉ ws → σ'[j]? = σ[j]?
def tG (G : Cf) (ws : List Nat) (g : MG) : TG := fun v σ H Q => ∃ et env h d, EnvR G et H env σ ∧ HRel G et h H ∧ Den G et H d v ∧ match g d env with
  | some env' => ∀ σ', OnlyS ws σ σ' → EnvR G et H env' σ' → Q σ' H
  | none => False
theorem PG.imp {X : Cx} {e : Expr} {w w' : TG} (h : PG X e w) (k : ∀ v σ H R, w' v σ H R → w v σ H R) : PG X e w' := ⟨fun pins s σ H v u R I r x => h.run pins s σ H v u R I r (k v σ H R x)⟩
def gSet (i : Nat) : MG := fun d env => some (env.set i (some d))
def gSets (is : List Nat) : MG := fun d env => match d with
  | .tup ds => if ds.length = is.length then some ((is.zip ds).foldl (fun e p => e.set p.1 (some p.2)) env) else none
  | .fl ds => if ds.length = is.length then some ((is.zip ds).foldl (fun e p => e.set p.1 (some p.2)) env) else none
  | _ => none
theorem PG.or {X : Cx} {e : Expr} {w w' : TG} (h : PG X e w) (h' : PG X e w') : PG X e (fun v σ H Q => w v σ H Q ∨ w' v σ H Q) := ⟨fun pins s σ H v u Q I r x => by
  rcases x with x | x
  · exact h.run pins s σ H v u Q I r x
  · exact h'.run pins s σ H v u Q I r x⟩
theorem OnlyS.refl (ws : List Nat) (σ : L2.St) : OnlyS ws σ σ := ⟨rfl, fun _ _ => rfl⟩
theorem OnlyS.set {ws : List Nat} {σ σ' : L2.St} (x : OnlyS ws σ σ') {i : Nat} (hi : i ∈ ws) (v : Option V) : OnlyS ws σ (σ'.set i v) :=
  ⟨by rw [List.length_set, x.1], fun j hj => by
    have hne : i ≠ j := fun z => hj (by rw [← z]; exact hi)
    rw [List.getElem?_set_ne hne]; exact x.2 j hj⟩
section
variable {X : Cx} {G : Cf} {W : WX} {e : Expr} {es : List Expr} {pos : Pos}
theorem mg_name (i : Nat) {x : Str} (hN : X.N.Nodup) (hi : X.N[i]? = some x := by rfl) (hx : Loc X.env.scope x := by first | exact Or.inl rfl | exact Or.inr rfl) (hf : X.fn x = true ∨ X.env.scope.names.lookup x = some .local := by first | exact .inl rfl | exact .inr rfl) :
    PG X (.Name x pos) (tG G [i] (gSet i)) := PG.imp (pg_name hN hi hx hf) fun v σ H Q ⟨et, env, h, d, hE, hH, hD, hP⟩ => by
  exact hP _ ((OnlyS.refl _ _).set (by simp) _) (hE.set i hD)
/-- several names -/
inductive PGN (X : Cx) (G : Cf) : List Nat → List Expr → TGs → Prop
  | nil : PGN X G [] [] gNil
  | cons {i : Nat} {is : List Nat} {e : Expr} {es : List Expr} {t : TGs} : PG X e (gName i) → PGN X G is es t → (assignEach (e :: es) X.env).map (·.2) = assign e X.env :: (assignEach es X.env).map (·.2) → PGN X G (i :: is) (e :: es) (gCons (gName i) t)
theorem PGN.pgs {is : List Nat} {es : List Expr} {t : TGs} (h : PGN X G is es t) : PGs X es t := by
  induction h with
  | nil => exact pgs_nil
  | cons h1 h2 h3 ih => exact pgs_cons h1 ih h3
theorem PGN.run {is : List Nat} {es : List Expr} {t : TGs} (h : PGN X G is es t) {et : List Addr} {H : Hp} {env : EV} {σ σ0 : L2.St} {ds : List D} {vs : List V} {ws : List Nat} {Q : L2.St → Hp → Prop} (hE : EnvR G et H env σ) (hD : DenL G et H ds vs) (hl : ds.length = is.length) (hw : ∀ i ∈ is, i ∈ ws)
    (ho : OnlyS ws σ0 σ) (q : ∀ σ', OnlyS ws σ0 σ' → EnvR G et H ((is.zip ds).foldl (fun e p => e.set p.1 (some p.2)) env) σ' → Q σ' H) : t vs σ H Q := by
  induction h generalizing env σ ds vs with
  | nil =>
    cases ds with
    | nil => rw [denL_nil] at hD; exact ⟨hD, q σ ho hE⟩
    | cons _ _ => simp at hl
  | cons h1 h2 h3 ih =>
    rename_i i is' e' es' t'
    cases ds with
    | nil => simp at hl
    | cons d ds =>
      obtain ⟨v, ws', rfl, r1, r2⟩ := denL_cons.mp hD
      refine ⟨v, ws', rfl, ?_⟩
      exact ih (hE.set i r1) r2 (by simpa using hl) (fun j hj => hw j (List.mem_cons_of_mem _ hj)) (ho.set (hw i List.mem_cons_self) _) q
theorem mg_tup {is : List Nat} {t : TGs} {k n : Nat} (hK : X.K = G.K) (hc : X.calm = true) (h : PGN X G is es t) (hln : is.length = n := by rfl) (hn : (assignEach es X.env).length = n := by rfl) (hst : (assignEach es X.env).findIdx? (·.1) = none := by rfl) :
    PG X (.Tuple es k pos) (tG G is (gSets is)) := PG.imp (PG.or (pg_tup hc h.pgs hn hst) (pg_unl hc h.pgs hn hst)) fun v σ H Q ⟨et, env, h0, d, hE, hH, hD, hP⟩ => by
  unfold gSets at hP
  cases d with
  | tup ds =>
    simp only at hP
    split at hP
    · rename_i hl
      split at hl
      · rename_i l
        obtain ⟨a, vs, rfl, r1, r2⟩ := den_tup.mp hD
        cases hl
        rw [hK]
        exact .inl ⟨a, vs, rfl, r1, by rw [r2.len, l, hln], h.run hE r2 l (fun i hi => hi) (OnlyS.refl _ _) fun σ' o hE' => hP σ' o hE'⟩
      · cases hl
    · exact hP.elim
  | fl ds =>
    simp only at hP
    split at hP
    · rename_i hl
      split at hl
      · rename_i l
        obtain ⟨a, vs, rfl, r1, r2⟩ := den_fl.mp hD
        cases hl
        rw [hK]
        exact .inr ⟨a, vs, rfl, r1.sq, by rw [r2.len, l, hln], h.run hE r2 l (fun i hi => hi) (OnlyS.refl _ _) fun σ' o hE' => hP σ' o hE'⟩
      · cases hl
    · exact hP.elim
  | _ => exact hP.elim
end
end NR

set_option Elab.async false
set_option linter.all false
set_option maxRecDepth 100000
/-! Loops, comprehensions. -/
namespace NR
open PySem PySem.Spec PyProof.Rows L2

/-! ### sources -/
/-- a list or a tuple or a text, as it comes -/
def iSeq (m : ME) : MI := fun env h => (m env h).bind fun x h1 => match x with
  | .ref n => if (lstOf h1 (.ref n)).isSome then .ok (.ls n) h1 else .no
  | .tup l => .ok (.st l) h1
  | .fl l => .ok (.st l) h1
  | .str s => if s.length ≤ 10000000 then .ok (.st (s.map fun c => .str [c])) h1 else .no
  | _ => .no
def intsFrom (lo : Int) (n : Nat) : List D := (List.range n).map fun i => .int (lo + (i : Nat))
def iRange1 (m : MA) : MI := fun env h => (m env h).bind fun xs h1 => match xs with
  | [.int j] => if -10000000 ≤ j ∧ j ≤ 10000000 then .ok (.st (intsFrom 0 j.toNat)) h1 else .no
  | _ => .no
def iRange2 (m : MA) : MI := fun env h => (m env h).bind fun xs h1 => match xs with
  | [.int i, .int j] => if -10000000 ≤ i ∧ i ≤ 10000000 ∧ -10000000 ≤ j ∧ j ≤ 10000000 then .ok (.st (intsFrom i (j - i).toNat)) h1 else .no
  | _ => .no
section
variable {X : Cx} {G : Cf} {W : WX} {e tg : Expr} {es : List Expr} {me : ME} {mt : MA} {pos p : Pos}
/-- a walk of what e holds: a list, a tuple, a text (the reading takes any of the three) -/
theorem pi_any {te : TE} (he : PE X e te) : PI X tg e (fun σ H R => iList X.K te σ H R ∨ iTup X.K te σ H R ∨ iStr te σ H R) :=
  ⟨fun pins s σ H R I x => by
    rcases x with x | x | x
    · exact (pi_list he).run pins s σ H R I x
    · exact (pi_tup he).run pins s σ H R I x
    · exact (pi_str he).run pins s σ H R I x⟩
theorem jrel_list {et : List Addr} {H : Hp} {n : Nat} {a : Addr} (e : et[n]? = some a) : JRel G et H (.ls n) (Itl G.K a) := by
  intro et1 H1 h1 p ex R ok i
  have e1 : et1[n]? = some a := by
    obtain ⟨t, rfl⟩ := p
    rw [List.getElem?_append_left (List.getElem?_eq_some_iff.mp e).1]
    exact e
  have ok' : (lstOf h1 (.ref n)).isSome = true := ok
  obtain ⟨xs, hx⟩ := Option.isSome_iff_exists.mp ok'
  obtain ⟨b, vs, hb, h2, h3⟩ := lst_ok R hx (den_ref.mpr ⟨a, e1, rfl⟩)
  cases hb
  show match (lstOf h1 (.ref n)).bind fun xs => xs[i]? with
    | some d => _
    | none => _
  rw [hx]
  show match xs[i]? with
    | some d => _
    | none => _
  cases hd : xs[i]? with
  | some d =>
    obtain ⟨v, hv, r⟩ := h3.get hd
    refine ⟨⟨vs, v, h2, hv⟩, fun x H' ⟨hH, hy⟩ => ?_⟩
    rw [hH]
    have := hy vs h2
    rw [hv] at this
    cases this
    exact ⟨Ext.refl _, R, r⟩
  | none =>
    refine ⟨vs, h2, ?_⟩
    rw [h3.len]
    exact List.getElem?_eq_none_iff.mp hd
theorem jrel_st {et : List Addr} {H : Hp} {l : List D} {J : It} (k : ∀ (et1 : List Addr) (H1 : Hp) (h1 : IH), et <+: et1 → Ext H H1 → HRel G et1 h1 H1 → ∀ i : Nat, match l[i]? with
    | some d => J.go i H1 ∧ ∀ x H', J.yld i H1 x H' → Ext H1 H' ∧ HRel G et1 h1 H' ∧ Den G et1 H' d x
    | none => J.stop i H1) : JRel G et H (.st l) J := fun et1 H1 h1 p ex R _ i => k et1 H1 h1 p ex R i
theorem mi_seq (hK : X.K = G.K) (he : PE X e (tE G W me)) : PI X tg e (tI G W (iSeq me)) := PI.imp (pi_any he) fun σ H R ⟨et, env, h, hE, hH, hP⟩ => by
  unfold iSeq at hP
  rw [hK]
  cases hr : me env h with
  | no => rw [hr] at hP; exact hP.elim
  | ex c d h1 =>
    rw [hr] at hP
    exact .inl ⟨et, env, h, hE, hH, by rw [hr]; exact hP⟩
  | ok x h1 =>
    rw [hr] at hP
    cases x with
    | ref n =>
      refine .inl ⟨et, env, h, hE, hH, ?_⟩
      rw [hr]
      refine fun et1 H1 p e R1 v hv => ?_
      obtain ⟨a, ha, rfl⟩ := den_ref.mp hv
      have q : Pst G et H (if (lstOf h1 (.ref n)).isSome then NR.R.ok (Src.ls n) h1 else .no) (fun et' H' _ src => ∀ J, JRel G et' H' src J → R J H') (fun c d H' => W c d σ H') := hP
      split at q
      · rename_i ok
        obtain ⟨xs, hx⟩ := Option.isSome_iff_exists.mp ok
        obtain ⟨b, vs, hb, h2, h3⟩ := lst_ok R1 hx hv
        cases hb
        exact ⟨a, rfl, ⟨vs, h2⟩, q et1 H1 p e R1 _ (jrel_list ha)⟩
      · exact q.elim
    | tup l =>
      refine .inr (.inl ⟨et, env, h, hE, hH, ?_⟩)
      rw [hr]
      refine fun et1 H1 p e R1 v hv => ?_
      obtain ⟨a, vs, rfl, h2, h3⟩ := den_tup.mp hv
      refine ⟨a, rfl, ⟨vs, h2⟩, hP et1 H1 p e R1 _ (jrel_st fun et2 H2 h2' p2 e2 R2 i => ?_)⟩
      cases hd : l[i]? with
      | none =>
        refine ⟨vs, e2.sqT h2, ?_⟩
        rw [h3.len]
        exact List.getElem?_eq_none_iff.mp hd
      | some d =>
        obtain ⟨v, hv, r⟩ := h3.get hd
        refine ⟨⟨vs, v, e2.sqT h2, hv⟩, fun x H' ⟨hH, hy⟩ => ?_⟩
        rw [hH]
        have := hy vs (e2.sqT h2)
        rw [hv] at this
        cases this
        exact ⟨Ext.refl _, R2, r.mono p2 e2⟩
    | fl l =>
      refine .inl ⟨et, env, h, hE, hH, ?_⟩
      rw [hr]
      refine fun et1 H1 p e R1 v hv => ?_
      obtain ⟨a, vs, rfl, h2, h3⟩ := den_fl.mp hv
      refine ⟨a, rfl, ⟨vs, h2.sq⟩, hP et1 H1 p e R1 _ (jrel_st fun et2 H2 h2' p2 e2 R2 i => ?_)⟩
      cases hd : l[i]? with
      | none =>
        refine ⟨vs, (h2.ext e2).sq, ?_⟩
        rw [h3.len]
        exact List.getElem?_eq_none_iff.mp hd
      | some d =>
        obtain ⟨v, hv, r⟩ := h3.get hd
        refine ⟨⟨vs, v, (h2.ext e2).sq, hv⟩, fun x H' ⟨hH, hy⟩ => ?_⟩
        rw [hH]
        have := hy vs (h2.ext e2).sq
        rw [hv] at this
        cases this
        exact ⟨Ext.refl _, R2, r.mono p2 e2⟩
    | str s =>
      refine .inr (.inr ⟨et, env, h, hE, hH, ?_⟩)
      rw [hr]
      refine fun et1 H1 p e R1 v hv => ?_
      have q : Pst G et H (if s.length ≤ 10000000 then NR.R.ok (Src.st (s.map fun c => .str [c])) h1 else .no) (fun et' H' _ src => ∀ J, JRel G et' H' src J → R J H') (fun c d H' => W c d σ H') := hP
      split at q
      · refine ⟨strV s, den_str.mp hv, q et1 H1 p e R1 _ (jrel_st fun et2 H2 h2' p2 e2 R2 i => ?_)⟩
        rw [List.getElem?_map]
        cases hs : s[i]? with
        | none =>
          show (strV s).cps.size ≤ i
          simp [strV]
          exact List.getElem?_eq_none_iff.mp hs
        | some c =>
          refine ⟨?_, fun x H' ⟨hH, c', hc, hx⟩ => ?_⟩
          · show i < (strV s).cps.size
            simp [strV]
            exact (List.getElem?_eq_some_iff.mp hs).1
          · subst hx
            rw [hH]
            have : c' = c := by
              have h5 : s[i]? = some c' := by simpa [strV] using hc
              rw [hs] at h5
              exact (Option.some.inj h5).symm
            subst this
            exact ⟨Ext.refl _, R2, by simp [strV]⟩
      · exact q.elim
    | _ => exact hP.elim
theorem ints_get (lo : Int) (n i : Nat) : (intsFrom lo n)[i]? = if i < n then some (.int (lo + (i : Nat))) else none := by
  unfold intsFrom
  rw [List.getElem?_map]
  by_cases h : i < n
  · rw [if_pos h, List.getElem?_range h]
    rfl
  · rw [if_neg h, List.getElem?_eq_none (by simpa using h)]
    rfl
theorem jrel_ints {et : List Addr} {H : Hp} {lo : Int} {n : Nat} : JRel G et H (.st (intsFrom lo n)) (Itr lo n) := jrel_st fun et1 H1 h1 p ex R i => by
  rw [ints_get]
  by_cases h : i < n
  · rw [if_pos h]
    refine ⟨h, fun x H' ⟨hH, hx⟩ => ?_⟩
    rw [hH, hx]
    exact ⟨Ext.refl _, R, by simp⟩
  · rw [if_neg h]
    show n ≤ i
    omega
theorem mi_range1 {a : Expr} (ha : PA X [a] (tA G W mt)) (hm : X.mg "range" = none) (hg : Gl X "range" := by rfl) (hs : starEach [a] X.env = [(false, eval a X.env)] := by rfl) : PI X tg (.Call (.Name "range" p) [a] [] pos) (tI G W (iRange1 mt)) :=
  PI.imp (pi_range1 hg hm ha hs) fun σ H R ⟨et, env, h, hE, hH, hP⟩ => by
    refine ⟨et, env, h, hE, hH, (Pst.of_bind hP).imp fun et1 H1 h1 xs p e hr q vs hv => ?_⟩
    split at q
    · split at q
      · rename_i j c
        obtain ⟨v, rfl, r⟩ := list1 hv
        exact ⟨j, by rw [den_int.mp r], by omega, by omega, q.here hr _ jrel_ints⟩
      · exact q.elim
    · exact q.elim
theorem mi_range2 {a b : Expr} (ha : PA X [a, b] (tA G W mt)) (hm : X.mg "range" = none) (hg : Gl X "range" := by rfl) (hs : starEach [a, b] X.env = [(false, eval a X.env), (false, eval b X.env)] := by rfl) (hs2 : starEach [b] X.env = [(false, eval b X.env)] := by rfl) : PI X tg (.Call (.Name "range" p) [a, b] [] pos) (tI G W (iRange2 mt)) :=
  PI.imp (pi_range2 hg hm ha hs hs2) fun σ H R ⟨et, env, h, hE, hH, hP⟩ => by
    refine ⟨et, env, h, hE, hH, (Pst.of_bind hP).imp fun et1 H1 h1 xs p e hr q vs hv => ?_⟩
    split at q
    · split at q
      · rename_i i j c
        obtain ⟨v, w, rfl, r1, r2⟩ := list2 hv
        exact ⟨i, j, by rw [den_int.mp r1, den_int.mp r2], by omega, q.here hr _ jrel_ints⟩
      · exact q.elim
    · exact q.elim
end

/-! ### for -/
def forM (src : Src) (g : MG) (b : MS) : Nat → Nat → EV → IH → RS
  | 0, _, _, _ => .no
  | m + 1, i, env, h => if src.ok h = true then (match src.get h i with
    | none => .nx env h
    | some d => match g d env with
      | none => .no
      | some e1 => match b e1 h with
        | .nx e2 h2 => forM src g b m (i + 1) e2 h2
        | .ct e2 h2 => forM src g b m (i + 1) e2 h2
        | .bk e2 h2 => .nx e2 h2
        | r => r) else .no
def msFor (it : MI) (g : MG) (b : MS) : MS := fun env h => (it env h).bindS env fun src h1 => forM src g b (src.many h1 + 1) 0 env h1
section
variable {X : Cx} {G : Cf} {W : WX} {iter tg : Expr} {body : List Stmt} {it : MI} {g : MG} {ws : List Nat} {b : MS} {pos : Pos}
theorem ms_for (hc : X.calm = true) (hp : PassesOwn (model X.prog X.w) X.A X.env X.xe) (hi : PI X tg iter (tI G W it)) (hg : PG X tg (tG G ws g)) (hb : PSs X body (tS G W b)) (hs : ∀ x, foldedSetIterable iter X.env x = pure x := by intro _; rfl) :
    PS X (.For tg iter body [] pos) (tS G W (msFor it g b)) := PS.imp (ps_for hp hc hi hg hb hs) fun D σ H ⟨et, env, h, hE, hH, hP⟩ => by
  refine ⟨et, env, h, hE, hH, (PstS.of_bind hE hP).imp fun et1 H1 h1 src p e hr q J hJ => ?_⟩
  refine ⟨fun i m σ H => ∃ et2 env h, et1 <+: et2 ∧ Ext H1 H ∧ EnvR G et2 H env σ ∧ HRel G et2 h H ∧ PstS G et2 H (forM src g b m i env h) D W, ⟨_, et1, env, h1, List.prefix_rfl, Ext.refl _, hE.mono p e, hr, q⟩, fun i m σ H ⟨et2, env, h, pp, ee, hE2, hr2, q2⟩ => ?_⟩
  cases m with
  | zero => exact q2.elim
  | succ m =>
    unfold forM at q2
    split at q2
    · rename_i hok
      have j := hJ et2 H h pp ee hr2 hok i
      revert j q2
      cases hd : src.get h i with
      | none =>
        intro q2 j
        exact .inl ⟨j, q2 et2 H σ List.prefix_rfl (Ext.refl _) hr2 hE2⟩
      | some d =>
        intro q2 j
        dsimp only at q2
        refine .inr ⟨j.1, fun σ' H' => ∃ et3 env3 h3, et1 <+: et3 ∧ Ext H1 H' ∧ EnvR G et3 H' env3 σ' ∧ HRel G et3 h3 H' ∧ PstS G et3 H' (forM src g b m (i + 1) env3 h3) D W, fun σ' H' x => ⟨m, Nat.lt_succ_self m, x⟩, fun x H' hy => ?_⟩
        obtain ⟨ex, hr3, hx⟩ := j.2 x H' hy
        refine ⟨et2, env, h, d, hE2.mono List.prefix_rfl ex, hr3, hx, ?_⟩
        cases hgd : g d env with
        | none => rw [hgd] at q2; exact q2.elim
        | some e1 =>
          rw [hgd] at q2
          dsimp only at q2
          refine fun σ' _ hE' => ⟨et2, e1, h, hE', hr3, ?_⟩
          have q3 := q2
          revert q3
          cases hbr : b e1 h with
          | nx e2 h2 => exact fun q3 et' H'' σ'' p3 e3 hr4 hE4 => ⟨et', e2, h2, pp.trans p3, (ee.trans ex).trans e3, hE4, hr4, PstS.weak p3 (ex.trans e3) q3⟩
          | ct e2 h2 => exact fun q3 et' H'' σ'' p3 e3 hr4 hE4 => ⟨et', e2, h2, pp.trans p3, (ee.trans ex).trans e3, hE4, hr4, PstS.weak p3 (ex.trans e3) q3⟩
          | bk e2 h2 => exact fun q3 et' H'' σ'' p3 e3 hr4 hE4 => q3 et' H'' σ'' p3 (ex.trans e3) hr4 hE4
          | rt d2 h2 => exact fun q3 et' H'' v p3 e3 hr4 hv => q3 et' H'' v p3 (ex.trans e3) hr4 hv
          | ex c d2 e2 h2 => exact fun q3 et' H'' σ'' cls dd p3 e3 hr4 hE4 hx => q3 et' H'' σ'' cls dd p3 (ex.trans e3) hr4 hE4 hx
          | no => exact fun q3 => q3
    · exact q2.elim
end

/-! ### while -/
def whN (c : MT) (b : MS) : Nat → EV → IH → Option RS
  | 0, _, _ => none
  | k + 1, env, h => match c env h with
    | .ok true h1 => match b env h1 with
      | .nx e2 h2 => whN c b k e2 h2
      | .ct e2 h2 => whN c b k e2 h2
      | .bk e2 h2 => some (.nx e2 h2)
      | r => some r
    | .ok false h1 => some (.nx env h1)
    | .ex cl d h1 => some (.ex cl d env h1)
    | .no => some .no
open Classical in
noncomputable def msWhile (c : MT) (b : MS) : MS := fun env h => if x : ∃ r, ∃ k, whN c b k env h = some r then x.choose else .no
theorem whN_mono {c : MT} {b : MS} : ∀ {k j : Nat} {env : EV} {h : IH} {r : RS}, whN c b k env h = some r → k ≤ j → whN c b j env h = some r
  | 0, _, _, _, _, e, _ => by simp [whN] at e
  | k + 1, 0, _, _, _, _, l => absurd l (Nat.not_succ_le_zero _)
  | k + 1, j + 1, env, h, r, e, l => by
    unfold whN at e ⊢
    have l' : k ≤ j := Nat.le_of_succ_le_succ l
    revert e
    cases c env h with
    | ok a h1 =>
      cases a with
      | false => exact fun e => e
      | true =>
        dsimp only
        cases b env h1 with
        | nx e2 h2 => exact fun e => whN_mono e l'
        | ct e2 h2 => exact fun e => whN_mono e l'
        | bk e2 h2 => exact fun e => e
        | rt d2 h2 => exact fun e => e
        | ex c d2 e2 h2 => exact fun e => e
        | no => exact fun e => e
    | ex cl d h1 => exact fun e => e
    | no => exact fun e => e
theorem msWhile_of {c : MT} {b : MS} {k : Nat} {env : EV} {h : IH} {r : RS} (e : whN c b k env h = some r) : msWhile c b env h = r := by
  unfold msWhile
  have x : ∃ r, ∃ k, whN c b k env h = some r := ⟨r, k, e⟩
  rw [dif_pos x]
  obtain ⟨j, hj⟩ := x.choose_spec
  have h1 := whN_mono e (Nat.le_max_left k j)
  have h2 := whN_mono hj (Nat.le_max_right k j)
  rw [h1] at h2
  exact (Option.some.inj h2).symm
/-- one turn of a while -/
theorem msWhile_eq (c : MT) (b : MS) (env : EV) (h : IH) : msWhile c b env h = match c env h with
    | .ok true h1 => match b env h1 with
      | .nx e2 h2 => msWhile c b e2 h2
      | .ct e2 h2 => msWhile c b e2 h2
      | .bk e2 h2 => .nx e2 h2
      | r => r
    | .ok false h1 => .nx env h1
    | .ex cl d h1 => .ex cl d env h1
    | .no => .no := by
  have go : ∀ e2 h2, (∀ k, whN c b (k + 1) env h = whN c b k e2 h2) → msWhile c b env h = msWhile c b e2 h2 := fun e2 h2 hk => by
    by_cases x : ∃ r, ∃ k, whN c b k e2 h2 = some r
    · obtain ⟨r, k, e⟩ := x
      rw [msWhile_of e]
      exact msWhile_of (k := k + 1) (by rw [hk]; exact e)
    · have y : ¬ ∃ r, ∃ k, whN c b k env h = some r := fun ⟨r, k, e⟩ => by
        cases k with
        | zero => simp [whN] at e
        | succ k => rw [hk] at e; exact x ⟨r, k, e⟩
      unfold msWhile
      rw [dif_neg x, dif_neg y]
  cases hc : c env h with
  | ok a h1 =>
    cases a with
    | false => exact msWhile_of (k := 1) (by unfold whN; rw [hc])
    | true =>
      dsimp only
      cases hb : b env h1 with
      | nx e2 h2 => exact go e2 h2 fun k => by conv => lhs; unfold whN; rw [hc]; dsimp only; rw [hb]
      | ct e2 h2 => exact go e2 h2 fun k => by conv => lhs; unfold whN; rw [hc]; dsimp only; rw [hb]
      | bk e2 h2 => exact msWhile_of (k := 1) (by unfold whN; rw [hc]; dsimp only; rw [hb])
      | rt d2 h2 => exact msWhile_of (k := 1) (by unfold whN; rw [hc]; dsimp only; rw [hb])
      | ex cl d2 e2 h2 => exact msWhile_of (k := 1) (by unfold whN; rw [hc]; dsimp only; rw [hb])
      | no => exact msWhile_of (k := 1) (by unfold whN; rw [hc]; dsimp only; rw [hb])
  | ex cl d h1 => exact msWhile_of (k := 1) (by unfold whN; rw [hc])
  | no => exact msWhile_of (k := 1) (by unfold whN; rw [hc])
section
variable {X : Cx} {G : Cf} {W : WX} {c : Expr} {body : List Stmt} {mc : MT} {b : MS} {pos : Pos}
theorem ms_while (hp : PassesOwn (model X.prog X.w) X.A X.env X.xe) (hc : PT X c (tT G W mc)) (hb : PSs X body (tS G W b)) : PS X (.While c body [] pos) (tS G W (msWhile mc b)) := PS.imp (ps_while hp hc hb) fun D σ H ⟨et, env, h, hE, hH, hP⟩ => by
  unfold msWhile at hP
  split at hP
  · rename_i x
    refine ⟨fun m σ H => ∃ et env h r, EnvR G et H env σ ∧ HRel G et h H ∧ whN mc b m env h = some r ∧ PstS G et H r D W, ⟨_, et, env, h, _, hE, hH, x.choose_spec.choose_spec, hP⟩, ?_⟩
    rintro m σ H ⟨et, env, h, r, hE, hH, e, hP⟩
    cases m with
    | zero => simp [whN] at e
    | succ m =>
      unfold whN at e
      refine ⟨et, env, h, hE, hH, ?_⟩
      revert e
      cases mc env h with
      | ok a h1 =>
        cases a with
        | false =>
          intro e
          cases e
          exact fun et1 H1 p ex hr => (show D.nx σ H1 from hP et1 H1 σ p ex hr (hE.mono p ex))
        | true =>
          intro e et1 H1 p ex hr
          dsimp only
          rw [if_pos rfl]
          refine ⟨fun σ' H' => ∃ et env h r, EnvR G et H' env σ' ∧ HRel G et h H' ∧ whN mc b m env h = some r ∧ PstS G et H' r D W, fun σ' H' x => ⟨m, Nat.lt_succ_self m, x⟩, et1, env, h1, hE.mono p ex, hr, ?_⟩
          dsimp only at e
          revert e
          cases hb : b env h1 with
          | nx e2 h2 => exact fun e et2 H2 σ2 p2 ex2 hr2 hE2 => ⟨et2, e2, h2, r, hE2, hr2, e, PstS.weak (p.trans p2) (ex.trans ex2) hP⟩
          | ct e2 h2 => exact fun e et2 H2 σ2 p2 ex2 hr2 hE2 => ⟨et2, e2, h2, r, hE2, hr2, e, PstS.weak (p.trans p2) (ex.trans ex2) hP⟩
          | bk e2 h2 => intro e; cases e; exact fun et2 H2 σ2 p2 ex2 hr2 hE2 => hP et2 H2 σ2 (p.trans p2) (ex.trans ex2) hr2 hE2
          | rt d2 h2 => intro e; cases e; exact fun et2 H2 v p2 ex2 hr2 hv => hP et2 H2 v (p.trans p2) (ex.trans ex2) hr2 hv
          | ex cl d2 e2 h2 => intro e; cases e; exact fun et2 H2 σ2 cls dd p2 ex2 hr2 hE2 hx => hP et2 H2 σ2 cls dd (p.trans p2) (ex.trans ex2) hr2 hE2 hx
          | no => intro e; cases e; exact hP.elim
      | ex cl d h1 => intro e; cases e; exact fun et1 H1 cls dd p ex hr hx => hP et1 H1 σ cls dd p ex hr (hE.mono p ex) hx
      | no => intro e; cases e; exact hP.elim
  · exact hP.elim
end
end NR

set_option Elab.async false
set_option linter.all false
set_option maxRecDepth 100000
/-! Comprehensions, isinstance, the end. -/
namespace NR
open PySem PySem.Spec PyProof.Rows L2

def wipeE (env : EV) : List Nat → EV
  | [] => env
  | v :: vs => (wipeE env vs).set v none
abbrev W0 : WX := fun _ _ _ _ => False
theorem wipe_get (σ : L2.St) (j : Nat) : ∀ vs : List Nat, (wipe σ vs)[j]? = if j ∈ vs then (if j < σ.length then some none else none) else σ[j]?
  | [] => by simp [wipe]
  | v :: vs => by
    unfold wipe
    by_cases h : v = j
    · subst h
      rw [if_pos List.mem_cons_self]
      by_cases hl : v < σ.length
      · rw [List.getElem?_set_self (by rw [wipe_length]; exact hl), if_pos hl]
      · rw [List.getElem?_eq_none (by rw [List.length_set, wipe_length]; omega), if_neg hl]
    · rw [List.getElem?_set_ne h, wipe_get σ j vs]
      have : (j ∈ v :: vs) ↔ j ∈ vs := by
        rw [List.mem_cons]
        exact ⟨fun z => z.elim (fun z => absurd z.symm h) id, .inr⟩
      simp only [this]
theorem wipe_again {σ σ2 : L2.St} {vs : List Nat} (h : OnlyS vs (wipe σ vs) σ2) : wipe σ2 vs = wipe σ vs := by
  apply List.ext_getElem?
  intro j
  rw [wipe_get, wipe_get]
  have hl : σ2.length = σ.length := by rw [h.1, wipe_length]
  by_cases hj : j ∈ vs
  · rw [if_pos hj, if_pos hj, hl]
  · rw [if_neg hj, if_neg hj, h.2 j hj, wipe_out hj]
theorem EnvR.wipe {G : Cf} {et : List Addr} {H : Hp} {env : EV} {σ : L2.St} (x : EnvR G et H env σ) : ∀ vs : List Nat, EnvR G et H (wipeE env vs) (wipe σ vs)
  | [] => x
  | v :: vs => by
    have ih := x.wipe vs
    unfold wipeE L2.wipe
    refine ⟨by simp [ih.1], fun i d e => ?_⟩
    by_cases h : v = i
    · subst h
      by_cases hl : v < (wipeE env vs).length
      · rw [List.getElem?_set_self hl] at e; cases e
      · rw [List.getElem?_eq_none (by rw [List.length_set]; omega)] at e; cases e
    · rw [List.getElem?_set_ne h] at e
      obtain ⟨u, a, b⟩ := ih.2 i d e
      exact ⟨u, by rw [List.getElem?_set_ne h]; exact a, b⟩
def mYes : MT := fun _ h => .ok true h
def lcM (src : Src) (g : MG) (t : MT) (e : ME) (n : Nat) : Nat → Nat → EV → IH → R D
  | 0, _, _, _ => .no
  | m + 1, i, env, h => if src.ok h = true then (match src.get h i with
    | none => .ok (.ref n) h
    | some d => match g d env with
      | none => .no
      | some e1 => match t e1 h with
        | .ok true h2 => match e e1 h2 with
          | .ok y h3 => match h3[n]? with
            | some (.lst acc) => if acc.length < 10000000 then lcM src g t e n m (i + 1) env (h3.set n (.lst (acc ++ [y]))) else .no
            | _ => .no
          | _ => .no
        | .ok false h2 => lcM src g t e n m (i + 1) env h2
        | _ => .no) else .no
def mLc (it : MI) (g : MG) (t : MT) (e : ME) (ws : List Nat) : ME := fun env h => (it env h).bind fun src h1 => lcM src g t e h1.length (src.many h1 + 1) 0 (wipeE env ws) (h1 ++ [.lst []])
section
variable {X : Cx} {G : Cf} {W : WX} {elt tg iter : Expr} {ifs : List Expr} {scope : Scope} {own : List (Str × Nat)} {it : MI} {g : MG} {t : MT} {e : ME} {pos : Pos}
theorem mts_nil : PTs X [] (tT G W mYes) := ⟨fun pins s σ H Q I ⟨et, env, h, hE, hH, hP⟩ => pts_nil.run pins s σ H Q I (show Q true H from hP.here hH)⟩
theorem mts_one {c : Expr} {m : MT} (h : PT X c (tT G W m)) : PTs X [c] (tT G W m) := pts_one h
theorem tLc_of {σ : L2.St} {H : Hp} {Q : VK} (x : tE G W (mLc it g t e (own.map (·.2))) σ H Q) : tLc (tI G W it) (tG G (own.map (·.2)) g) (tT G W0 t) (tE G W0 e) (own.map (·.2)) σ H Q := by
  obtain ⟨et, env, h, hE, hH, hP⟩ := x
  refine ⟨et, env, h, hE, hH, (Pst.of_bind hP).imp fun et1 H1 h1 src p ex hr q J hJ Dd hD => ?_⟩
  have pf : et1 <+: et1 ++ [Dd] := List.prefix_append _ _
  have ex0 : Ext H1 (upd H1 Dd (.lst [])) := Ext.new hD
  have hr0 : HRel G (et1 ++ [Dd]) (h1 ++ [.lst []]) (upd H1 Dd (.lst [])) := hr.push hD ⟨[], upd_same, by simp⟩
  have hE0 : EnvR G (et1 ++ [Dd]) (upd H1 Dd (.lst [])) env σ := (hE.mono p ex).mono pf ex0
  have at0 : (et1 ++ [Dd])[h1.length]? = some Dd := by
    rw [← hr.len, List.getElem?_append_right (Nat.le_refl _), Nat.sub_self]
    rfl
  refine ⟨fun i m H => ∃ et2 h, et1 ++ [Dd] <+: et2 ∧ Ext H1 H ∧ EnvR G et2 H (wipeE env (own.map (·.2))) (wipe σ (own.map (·.2))) ∧ HRel G et2 h H ∧ Pst G et2 H (lcM src g t e h1.length m i (wipeE env (own.map (·.2))) h) (fun et' H' _ d => ∀ v, Den G et' H' d v → Q v H') (fun c d H' => W c d σ H'),
    ⟨_, et1 ++ [Dd], h1 ++ [.lst []], List.prefix_rfl, ex0, hE0.wipe _, hr0, Pst.weak pf ex0 q⟩, fun i m H ⟨et2, h, pp, ee, hE2, hr2, q2⟩ => ?_⟩
  have at2 : et2[h1.length]? = some Dd := by
    obtain ⟨t2, rfl⟩ := pp
    rw [List.getElem?_append_left (List.getElem?_eq_some_iff.mp at0).1]
    exact at0
  cases m with
  | zero => exact q2.elim
  | succ m =>
    unfold lcM at q2
    split at q2
    · rename_i hok
      have j := hJ et2 H h (pf.trans pp) ee hr2 hok i
      revert j q2
      cases hd : src.get h i with
      | none =>
        intro q2 j
        exact .inl ⟨j, q2.here hr2 _ (den_ref.mpr ⟨Dd, at2, rfl⟩)⟩
      | some d =>
        intro q2 j
        dsimp only at q2
        refine .inr ⟨j.1, fun H' => ∃ et3 h3, et1 ++ [Dd] <+: et3 ∧ Ext H1 H' ∧ EnvR G et3 H' (wipeE env (own.map (·.2))) (wipe σ (own.map (·.2))) ∧ HRel G et3 h3 H' ∧ Pst G et3 H' (lcM src g t e h1.length m (i + 1) (wipeE env (own.map (·.2))) h3) (fun et' H' _ d => ∀ v, Den G et' H' d v → Q v H') (fun c d H' => W c d σ H'),
          fun H' x => ⟨m, Nat.lt_succ_self m, x⟩, fun x H' hy => ?_⟩
        obtain ⟨ex1, hr3, hx⟩ := j.2 x H' hy
        have hE3 := hE2.mono List.prefix_rfl ex1
        refine ⟨et2, _, h, d, hE3, hr3, hx, ?_⟩
        cases hgd : g d (wipeE env (own.map (·.2))) with
        | none => rw [hgd] at q2; exact q2.elim
        | some e1 =>
          rw [hgd] at q2
          dsimp only at q2
          refine fun σ2 o2 hE4 => ⟨wipe_again o2, et2, e1, h, hE4, hr3, ?_⟩
          revert q2
          cases ht : t e1 h with
          | no => exact fun q2 => q2
          | ex _ _ _ => exact fun q2 => q2.elim
          | ok b h2 =>
            cases b with
            | false =>
              intro q2 et4 H4 p4 ex4 hr4
              dsimp only
              rw [if_neg Bool.false_ne_true]
              exact ⟨et4, h2, pp.trans p4, (ee.trans ex1).trans ex4, hE3.mono p4 ex4, hr4, Pst.weak p4 (ex1.trans ex4) q2⟩
            | true =>
              intro q2 et4 H4 p4 ex4 hr4
              dsimp only at q2 ⊢
              rw [if_pos rfl]
              refine ⟨et4, e1, h2, hE4.mono p4 ex4, hr4, ?_⟩
              revert q2
              cases he : e e1 h2 with
              | no => exact fun q2 => q2
              | ex _ _ _ => exact fun q2 => q2.elim
              | ok y h3 =>
                intro q2 et5 H5 p5 ex5 hr5 v hv
                dsimp only at q2
                split at q2
                · rename_i acc hacc
                  split at q2
                  · rename_i hl
                    have at5 : et5[h1.length]? = some Dd := by
                      obtain ⟨t5, rfl⟩ := p4.trans p5
                      rw [List.getElem?_append_left (List.getElem?_eq_some_iff.mp at2).1]
                      exact at2
                    obtain ⟨us, hus, dus⟩ := hr5.cell _ _ _ hacc at5
                    have ex6 : Ext H5 (upd H5 Dd (.lst (us ++ [v]))) := Ext.mut hus True.intro
                    have hr6 := hr5.set (u := .lst (us ++ [v])) (c' := .lst (acc ++ [y])) hacc at5 rfl hus True.intro ⟨_, upd_same, (dus.app (denL_cons.mpr ⟨v, [], rfl, hv, by simp⟩)).mono List.prefix_rfl ex6⟩
                    refine ⟨us, hus, by rw [dus.len, sizeLine_eq]; omega, et5, _, (pp.trans p4).trans p5, (((ee.trans ex1).trans ex4).trans ex5).trans ex6, ((hE3.mono p4 ex4).mono p5 ex5).mono List.prefix_rfl ex6, hr6, ?_⟩
                    exact Pst.weak (p4.trans p5) (((ex1.trans ex4).trans ex5).trans ex6) q2
                  · exact q2.elim
                · exact q2.elim
    · exact q2.elim
theorem me_lc (hc : X.calm = true) (hN : X.N.Nodup) (hi : PI X tg iter (tI G W it)) (ok : BlkOk X.N X.env.scope scope own)
    (hg : ∀ (s : Shared) (H : Hp) (C : Addr) (cl : List (Str × Addr)) (fp : List Addr), PG (X.blk s H scope (compEnvC scope cl C X.env) fp) tg (tG G (own.map (·.2)) g))
    (ht : ∀ (s : Shared) (H : Hp) (C : Addr) (cl : List (Str × Addr)) (fp : List Addr), PTs (X.blk s H scope (compEnvC scope cl C X.env) fp) ifs (tT G W0 t))
    (he : ∀ (s : Shared) (H : Hp) (C : Addr) (cl : List (Str × Addr)) (fp : List Addr), PE (X.blk s H scope (compEnvC scope cl C X.env) fp) elt (tE G W0 e)) (hs : ∀ x, foldedSetIterable iter X.env x = pure x := by intro _; rfl) :
    PE X (.ListComp elt [⟨tg, iter, ifs, 0⟩] scope pos) (tE G W (mLc it g t e (own.map (·.2)))) := PE.imp (pe_lc hc hN hi ok hg ht he hs) fun _ _ _ x => tLc_of x
theorem ms_setLc (i : Nat) {y : Str} {py spos : Pos} (hc : X.calm = true) (hN : X.N.Nodup) (hi : PI X tg iter (tI G W it)) (ok : BlkOk X.N X.env.scope scope own)
    (hg : ∀ (s : Shared) (H : Hp) (C : Addr) (cl : List (Str × Addr)) (fp : List Addr), PG (X.blk s H scope (compEnvC scope cl C X.env) fp) tg (tG G (own.map (·.2)) g))
    (ht : ∀ (s : Shared) (H : Hp) (C : Addr) (cl : List (Str × Addr)) (fp : List Addr), PTs (X.blk s H scope (compEnvC scope cl C X.env) fp) ifs (tT G W0 t))
    (he : ∀ (s : Shared) (H : Hp) (C : Addr) (cl : List (Str × Addr)) (fp : List Addr), PE (X.blk s H scope (compEnvC scope cl C X.env) fp) elt (tE G W0 e))
    (hsw : swapsWith (.ListComp elt [⟨tg, iter, ifs, 0⟩] scope pos) (some (.Name y py)) spos.line X.env = pure true) (hy : X.N[i]? = some y := by rfl) (hyl : X.env.scope.names.lookup y = some .local := by rfl) (hs : ∀ x, foldedSetIterable iter X.env x = pure x := by intro _; rfl) :
    PS X (.Assign [.Name y py] (.ListComp elt [⟨tg, iter, ifs, 0⟩] scope pos) spos) (tS G W (msSet i (mLc it g t e (own.map (·.2))))) := PS.imp (ps_setLc hc hN hy hyl hsw hi ok hg ht he hs) fun D σ H ⟨et, env, h, hE, hH, hP⟩ => by
  refine tLc_of ⟨et, env, h, hE, hH, (PstS.of_bind hE hP).imp fun et1 H1 h1 d p e hr q v hv => q et1 H1 _ List.prefix_rfl (Ext.refl _) hr ((hE.mono p e).set i hv)⟩
end

/-! ### isinstance -/
def isT (T : String) (h : IH) : D → Option Bool
  | .non => kitB "NoneType" T
  | .bl _ => kitB "bool" T
  | .int _ => kitB "int" T
  | .str _ => kitB "str" T
  | .tup _ => kitB "tuple" T
  | .fl _ => kitB "list" T
  | .fd _ _ => kitB "dict" T
  | .ref n => match h[n]? with
    | some (.lst _) => kitB "list" T
    | some (.frz _) => kitB "list" T
    | some (.dk _) => kitB "dict" T
    | _ => none
  | _ => none
def mIs (T : String) (m : ME) : ME := fun env h => (m env h).bind fun x h1 => match isT T h1 x with
  | some b => .ok (.bl b) h1
  | none => .no
section
variable {X : Cx} {G : Cf} {W : WX} {a : Expr} {ma : ME} {pos p p2 : Pos} {T : String} {y : Str}
theorem sqT_ty {K : PySem.W.Frag} {H : Hp} {a : Addr} {vs : List V} (h : SqT K H a vs) : TyX K H (.ref a) (.type "tuple") := by
  rcases h with (h | ⟨o, h⟩) | ⟨o, its, n, hk, hc, _⟩
  · exact .base (.tup h)
  · exact .fTuple h
  · exact .kTuple hk hc
theorem frzL_ty {K : PySem.W.Frag} {H : Hp} {a : Addr} {vs : List V} (h : FrzL K H a vs) : TyX K H (.ref a) (.type "list") := by
  rcases h with ⟨o, h⟩ | ⟨o, its, n, hk, hc, _⟩
  · exact .base (.frz h)
  · exact .kList hk hc
theorem isT_ok {et : List Addr} {H : Hp} {h : IH} (R : HRel G et h H) {x : D} {v : V} {b : Bool} (e : isT T h x = some b) (r : Den G et H x v) : ∃ t, TyX G.K H v t ∧ PySem.W.kitOne G.K t (.type T) = some b := by
  cases x with
  | non => rw [den_non.mp r]; exact ⟨_, .base .non, kit_ty e⟩
  | bl _ => rw [den_bl.mp r]; exact ⟨_, .base (.bl _), kit_ty e⟩
  | int _ => rw [den_int.mp r]; exact ⟨_, .base (.int _), kit_ty e⟩
  | str _ => rw [den_str.mp r]; exact ⟨_, .base (.str _), kit_ty e⟩
  | tup l =>
    obtain ⟨a, vs, rfl, h1, _⟩ := den_tup.mp r
    exact ⟨_, sqT_ty (TpT.sq h1), kit_ty e⟩
  | ref n =>
    obtain ⟨a, h1, rfl⟩ := den_ref.mp r
    simp only [isT] at e
    split at e
    · rename_i xs hx
      obtain ⟨vs, h2, _⟩ := R.cell n _ a hx h1
      exact ⟨_, .base (.lst h2), kit_ty e⟩
    · rename_i xs hx
      obtain ⟨vs, h2, _⟩ := R.cell n _ a hx h1
      exact ⟨_, frzL_ty h2, kit_ty e⟩
    · rename_i xs hx
      obtain ⟨vs, h2, _⟩ := R.cell n _ a hx h1
      exact ⟨_, .base (.dK h2), kit_ty e⟩
    · cases e
  | fl l =>
    obtain ⟨a, vs, rfl, h1, _⟩ := den_fl.mp r
    exact ⟨_, frzL_ty (K := G.K) h1.frz, kit_ty e⟩
  | fd ks l =>
    obtain ⟨a, ws, rfl, ⟨o, h1⟩, _⟩ := den_fd.mp r
    exact ⟨_, .fDict h1, kit_ty e⟩
  | exc a => simp [isT] at e
theorem me_is (hK : X.K = G.K) (ha : PE X a (tE G W ma)) (hm : X.mg "isinstance" = none) (hmT : X.mg y = none) (hv : bootBuiltins "isinstance" = some (.builtin "isinstance") := by decide +kernel) (hvT : bootBuiltins y = some (.type T) := by decide +kernel) (hg : Gl X "isinstance" := by rfl) (hgT : Gl X y := by rfl) (hnT : y ≠ "__name__" := by decide) (hdT : (y == ("__debug__" : Str)) = false := by decide)
    (hs1 : starEach [a, .Name y p2] X.env = (false, eval a X.env) :: starEach [.Name y p2] X.env := by rfl) (hs2 : starEach [.Name y p2] X.env = (false, eval (.Name y p2) X.env) :: starEach [] X.env := by rfl) (hpl : (backTo pos (starEach [.Name y p2] X.env)).any (·.1) = false := by rfl) :
    PE X (.Call (.Name "isinstance" p) [a, .Name y p2] [] pos) (tE G W (mIs T ma)) :=
  PE.imp (pe_callB call_isi hg hm hv (pa_cons ha (pa_cons (pe_bltn (v := .ty T) hgT hmT hvT rfl hnT hdT) pa_nil hs2) hs1) (by decide) (by decide) hs1 hpl) fun σ H Q ⟨et, env, h, hE, hH, hP⟩ => by
    refine ⟨et, env, h, hE, hH, (Pst.of_bind hP).imp fun et1 H1 h1 x p e hr q v hv => ?_⟩
    split at q
    · rename_i b hb
      obtain ⟨t, h2, h3⟩ := isT_ok hr hb hv
      rw [hK]
      exact ⟨v, .ty T, t, _, b, rfl, .ty T, h2, h3, q.here hr _ (by simp)⟩
    · exact q.elim
end
/-! ### the law's promise -/
def spLaw (G : Cf) (fm : MF) : Sp := fun vs H Q E => ∃ (a : Addr) (ns : List Int), vs = [.ref a] ∧ ns.length ≤ 63 ∧ Only H ∧ SqL G.K H a (ns.map V.int) ∧ ∀ H', Q (.bl true) H'
theorem FrzL.of_only {K : PySem.W.Frag} {H : Hp} {a : Addr} {vs : List V} (o : Only H) (h : SqL K H a vs) : FrzL K H a vs := by
  rcases h with (h | ⟨ob, h⟩) | h
  · rcases o a with z | ⟨o', xs, z⟩
    · rw [z] at h; cases h
    · rw [z] at h; cases h
  · exact .inl ⟨ob, h⟩
  · exact .inr h
/-- the law's function says True on every script -/
def LawOk (fm : MF) : Prop := ∀ ns : List Int, ns.length ≤ 63 → ∃ h', fm [.ref 0] [.frz (ns.map D.int)] = .ok (.bl true) h'
theorem law_ok {P : Program} {w : World} {K : PySem.W.Frag} {mg : Str → Option Value} {base : Heap} {CX : CXT} {k : Nat} {f : Addr} {fd : FuncData} {ps : List Str} {G : Cf} {fm : MF} (F : FnOk P w K mg base CX k f fd ps (FSp G 1 fm)) (hl : LawOk fm) : FnOk P w K mg base CX k f fd ps (spLaw G fm) :=
  F.imp fun vs H Q E ⟨a, ns, e, l, o, hS, q⟩ => by
    refine ⟨by rw [e]; rfl, [a], [.ref 0], [.frz (ns.map D.int)], ?_, ⟨rfl, ?_, ?_⟩, ?_⟩
    · rw [e]
      exact denL_cons.mpr ⟨_, [], rfl, den_ref.mpr ⟨a, rfl, rfl⟩, by simp⟩
    · intro n m c c' b h1 h2 h3 h4 f1 f2
      have : n = 0 := by
        have := (List.getElem?_eq_some_iff.mp h3).1
        simp at this
        omega
      subst this
      simp at h1
      subst h1
      cases f1
    · intro n c b h1 h2
      have : n = 0 := by
        have := (List.getElem?_eq_some_iff.mp h2).1
        simp at this
        omega
      subst this
      simp at h1 h2
      subst h1 h2
      exact ⟨_, FrzL.of_only o hS, DenL.ofInts⟩
    · obtain ⟨h', e2⟩ := hl ns l
      rw [e2]
      intro et' H' _ _ _ v hv
      rw [den_bl.mp hv]
      exact q H'
end NR

set_option Elab.async false
set_option linter.all false
set_option maxRecDepth 100000
/-! o[i] op= e; callees. -/
namespace NR
open PySem PySem.Spec PyProof.Rows L2
section
variable {X : Cx}
theorem get_list : PGet X (rIxL X.K) := by
  intro pins s σ H x y v u Q I rx ry h
  obtain ⟨p, xs, i, z, rfl, rfl, hq, he, q⟩ := h
  cases rx
  obtain ⟨t, rfl⟩ := ry
  obtain ⟨its, r, pl, hz⟩ := I.list hq
  obtain ⟨j, h1, h2, h3, h4, h5⟩ := atI_get he
  obtain ⟨w, ew, rw'⟩ := r.get h2
  have hl := r.length
  have hn := line63
  have fin : EP X pins σ Q w s := ⟨z, H, I, rw', q⟩
  by_cases h0 : 0 ≤ i
  · have hj : i.toNat = j := by
      rw [seqIndex_of h0 h5] at h1
      exact Option.some.inj h1
    exact wpAny_getItem_list pl.isList h0 (by omega) (by rw [hj]; simpa using ew) fin
  · have hj : (i + (its.toArray.size : Int)).toNat = j := by
      rw [seqIndex_neg (by omega) h4] at h1
      rw [List.size_toArray, ← hl]
      exact Option.some.inj h1
    exact wpAny_getItem_list_neg pl.isList (by omega) (by rw [List.size_toArray] <;> omega) (by omega) (by rw [hj]; simpa using ew) fin
end
/-- a list's item -/
def getL (o i : D) (h : IH) : Option D := match i with
  | .int k => (lstOf h o).bind fun xs => (ixN xs.length k).bind fun j => xs[j]?
  | _ => none
def msAugI (f : D → D → IH → R D) (mo mi me : ME) : MS := fun env h => (mo env h).bindS env fun o h1 => (mi env h1).bindS env fun i h2 => match getL o i h2 with
  | none => .no
  | some x => (me env h2).bindS env fun y h3 => (f x y h3).bindS env fun z h4 => match putD o i z h4 with
    | some h5 => .nx env h5
    | none => .no
section
variable {X : Cx} {G : Cf} {W : WX} {o i e : Expr} {me mo mi : ME} {pos tpos : Pos} {r : R2} {f : D → D → IH → R D} {op : Operator}
theorem getL_ok {et : List Addr} {H : Hp} {h : IH} {x y d : D} {v w : V} {Q : VK} (R : HRel G et h H) (e : getL x y h = some d) (rx : Den G et H x v) (ry : Den G et H y w) (q : ∀ u, Den G et H d u → Q u H) : rIxL G.K v w H Q := by
  unfold getL at e
  split at e
  · rename_i k
    simp only [Option.bind_eq_some_iff] at e
    obtain ⟨xs, e1, e2⟩ := e
    obtain ⟨a, vs, rfl, h1, h2⟩ := lst_ok R e1 rx
    obtain ⟨u, e3, r3⟩ := atI_den h2 (k := k) (by simpa only [Option.bind_eq_some_iff] using e2)
    exact ⟨a, vs, k, u, rfl, den_int.mp ry, h1, e3, q u r3⟩
  · cases e
theorem ms_augI (hK : X.K = G.K) (hop : OpR X (inplaceOp op) r) (hs : OpS G r f) (ho : PE X o (tE G W mo)) (hi : PE X i (tE G W mi)) (he : PE X e (tE G W me))
    (ha : ∀ ov iv new, augStore i ov iv new = (do holding [new, ov, iv] (setItem ov iv new); release [new, ov, iv] []; pure .next) := by intros; rfl) : PS X (.AugAssign (.Subscript o i tpos) op e pos) (tS G W (msAugI f mo mi me)) :=
  PS.imp (ps_augS ho hi get_list he (tip := r) hop set_list ha) fun D σ H ⟨et, env, h, hE, hH, hP⟩ => by
    refine ⟨et, env, h, hE, hH, (PstS.of_bind hE hP).imp fun et1 H1 h1 o p e hr q vo ho => ?_⟩
    have hE1 := hE.mono p e
    refine ⟨et1, env, h1, hE1, hr, (PstS.of_bind hE1 q).imp fun et2 H2 h2 i p2 e2 hr2 q2 vi hi => ?_⟩
    have hE2 := hE1.mono p2 e2
    have ho2 := ho.mono p2 e2
    revert q2
    cases hg : getL o i h2 with
    | none => exact fun q2 => q2.elim
    | some x =>
      intro q2
      dsimp only at q2
      rw [hK]
      refine getL_ok hr2 hg ho2 hi fun vx hx => ?_
      refine ⟨et2, env, h2, hE2, hr2, (PstS.of_bind hE2 q2).imp fun et3 H3 h3 y p3 e3 hr3 q3 vy hy => ?_⟩
      have hE3 := hE2.mono p3 e3
      refine hs et3 H3 h3 x y vx vy _ _ (hx.mono p3 e3) hy hr3 ((PstS.of_bind hE3 q3).imp fun et4 H4 h4 z p4 e4 hr4 q4 vz hz => ?_)
      have hE4 := hE3.mono p4 e4
      revert q4
      cases hp : putD o i z h4 with
      | none => exact fun q4 => q4.elim
      | some h5 =>
        intro q4
        exact put_ok hr4 hp ((ho2.mono p3 e3).mono p4 e4) ((hi.mono p3 e3).mono p4 e4) hz fun H' ex hr5 => q4 et4 H' σ List.prefix_rfl ex hr5 (hE4.mono List.prefix_rfl ex)
end
/-! ### a def by its name -/
structure FnG (P : Program) (w : World) (K : PySem.W.Frag) (mg : Str → Option Value) (base : Heap) (G : Cf) (x : Str) (k n : Nat) (fm : MF) : Prop where
  ex : ∃ f fd ps, FnOk P w K mg base (L2.CX P w) k f fd ps (FSp G n fm) ∧ mg x = some (.ref f) ∧ PySem.W.keepIn K (.ref f) = true ∧ Binds K fd ps []
section
variable {X : Cx} {G : Cf} {W : WX} {k j n : Nat} {fm : MF} {x : Str} {p pos : Pos} {e : Expr} {es : List Expr} {mt : MA}
theorem me_callG (F : FnG X.prog X.w X.K X.mg X.base G x k n fm) (hr : Room j X.A) (hj : k ≤ j) (tk : Takes X W) (ha : PA X (e :: es) (tA G W mt)) (hg : Gl X x := by rfl) (hdb : (x == ("__debug__" : Str)) = false := by decide)
    (he : starEach (e :: es) X.env = (false, eval e X.env) :: starEach es X.env := by rfl) (hpl : (backTo pos (starEach es X.env)).any (·.1) = false := by rfl) : PE X (.Call (.Name x p) (e :: es) [] pos) (tE G W (mCall n fm mt)) := by
  obtain ⟨f, fd, ps, h1, h2, h3, h4⟩ := F.ex
  exact me_call h1 (hr.mono hj) h2 h3 h4 tk ha hg hdb he hpl
theorem me_callG0 (F : FnG X.prog X.w X.K X.mg X.base G x k n fm) (hr : Room j X.A) (hj : k ≤ j) (tk : Takes X W) (hg : Gl X x := by rfl) (hdb : (x == ("__debug__" : Str)) = false := by decide) : PE X (.Call (.Name x p) [] [] pos) (tE G W (mCall n fm mNil)) := by
  obtain ⟨f, fd, ps, h1, h2, h3, h4⟩ := F.ex
  exact me_call0 h1 (hr.mono hj) h2 h3 h4 tk hg hdb
end
/-- what the written part tells of a def -/
structure DefAt (K : PySem.W.Frag) (mg : Str → Option Value) (x : Str) (st : Stmt) (ps : List Str) : Prop where
  ex : ∃ f fd, Fun K x x st f fd ∧ mg x = some (.ref f) ∧ Binds K fd ps []
theorem DefAt.fn {P : Program} {w : World} {K : PySem.W.Frag} {mg : Str → Option Value} {base : Heap} {G : Cf} {x : Str} {st : Stmt} {ps : List Str} {k n : Nat} {fm : MF} (d : DefAt K mg x st ps) (h : ∀ f fd, Fun K x x st f fd → FnOk P w K mg base (L2.CX P w) k f fd ps (FSp G n fm)) : FnG P w K mg base G x k n fm := by
  obtain ⟨f, fd, h1, h2, h3⟩ := d.ex
  exact ⟨f, fd, ps, h f fd h1, h2, h1.kp, h3⟩
end NR

set_option Elab.async false
set_option linter.all false
set_option maxRecDepth 100000
/-! list(x), tuple(x), a, b = e; constants; the end. -/
namespace NR
open PySem PySem.Spec PyProof.Rows L2
section
variable {X : Cx} {G : Cf} {W : WX}
def rListA (K : PySem.W.Frag) : List V → Hp → VK → Prop := fun xs H Q => ∃ p ys, xs = [.ref p] ∧ (SqL K H p ys ∨ SqT K H p ys) ∧ ∀ l, H l = none → Q (.ref l) (upd H l (.lst ys))
def rTupleA (K : PySem.W.Frag) : List V → Hp → VK → Prop := fun xs H Q => ∃ p ys, xs = [.ref p] ∧ ((SqL K H p ys ∧ ∀ l, H l = none → Q (.ref l) (upd H l (.tup ys))) ∨ (SqT K H p ys ∧ Q (.ref p) H))
theorem call_listA : CallR X (.type "list") (rListA X.K) := call_list_of
theorem call_tupleA : CallR X (.type "tuple") (rTupleA X.K) := call_tuple_of
theorem bList_ok : CallS G (rListA G.K) bList := by
  intro et H h xs vs W Q rv R p
  unfold bList at p
  split at p
  · split at p
    · exact p.elim
    · split at p
      · rename_i ys e
        obtain ⟨v, rfl, h1⟩ := list1 rv
        obtain ⟨a, vs, rfl, h2, h3⟩ := seq_ok R e h1
        exact ⟨a, vs, rfl, h2, p.newL R h3⟩
      · exact p.elim
  · exact p.elim
theorem bTuple_ok : CallS G (rTupleA G.K) bTuple := by
  intro et H h xs vs W Q rv R p
  unfold bTuple at p
  split at p
  · split at p
    · exact p.elim
    · obtain ⟨v, rfl, h1⟩ := list1 rv
      obtain ⟨a, vs, rfl, h2, h3⟩ := den_tup.mp h1
      exact ⟨a, vs, rfl, .inr ⟨h2, p.here R _ h1⟩⟩
    · split at p
      · rename_i ys e
        obtain ⟨v, rfl, h1⟩ := list1 rv
        obtain ⟨a, vs, rfl, h2, h3⟩ := lst_ok R e h1
        exact ⟨a, vs, rfl, .inl ⟨h2, p.newT R h3⟩⟩
      · exact p.elim
  · exact p.elim
def msSetT (g : MG) (m : ME) : MS := fun env h => (m env h).bindS env fun d h1 => match g d env with
  | some e => .nx e h1
  | none => .no
theorem ms_setT {es : List Expr} {k : Nat} {e : Expr} {me : ME} {g : MG} {ws : List Nat} {pos pos' : Pos} (he : PE X e (tE G W me)) (hg : PG X (.Tuple es k pos') (tG G ws g)) (hs : swapsWithSole [.Tuple es k pos'] e pos.line X.env = pure false := by rfl) (hw : swappedStores [.Tuple es k pos'] e X.env = pure none := by rfl)
    (h1 : (assignEach [.Tuple es k pos'] X.env).map (·.2) = [assign (.Tuple es k pos') X.env] := by rfl) : PS X (.Assign [.Tuple es k pos'] e pos) (tS G W (msSetT g me)) :=
  PS.imp (ps_asg he hg hs hw h1) fun D σ H ⟨et, env, h, hE, hH, hP⟩ => by
    refine ⟨et, env, h, hE, hH, (PstS.of_bind hE hP).imp fun et1 H1 h1 d p e hr q v hv => ?_⟩
    refine ⟨et1, env, h1, d, hE.mono p e, hr, hv, ?_⟩
    cases hgd : g d env with
    | none => rw [hgd] at q; exact q.elim
    | some e1 =>
      rw [hgd] at q
      exact fun σ' _ hE' => q et1 H1 σ' List.prefix_rfl (Ext.refl _) hr hE'
end
/-- a constant of the top -/
def GlC (mg : Str → Option Value) (x : Str) (d : D) : Prop := ∃ u, OfC d u ∧ mg x = some u
theorem me_globG {X : Cx} {G : Cf} {W : WX} {x : Str} {d : D} {pos : Pos} (g : GlC X.mg x d) (hg : Gl X x := by rfl) (hd : (x == ("__debug__" : Str)) = false := by decide) : PE X (.Name x pos) (tE G W (mC d)) := by
  obtain ⟨u, h1, h2⟩ := g
  exact me_glob d h1 h2 hg hd
theorem glI_of {K : PySem.W.Frag} {h : Heap} {mg : Str → Option Value} {x : Str} {n : Int} {d : D} (X : K.In h) (Gn : h.Ns mainGlobals mg) (g : ∃ t, PySem.W.nsIn K mainGlobals x = some (some (.int n t))) (e : (match d with | .int m => decide (m = n) | _ => false) = true) : GlC mg x d := by
  obtain ⟨t, g⟩ := g
  cases d with
  | int m =>
    have e' : m = n := by simpa using e
    subst e'
    exact ⟨_, ⟨t, rfl⟩, PySem.W.mg_of X Gn g⟩
  | _ => cases e
theorem glS_of {K : PySem.W.Frag} {h : Heap} {mg : Str → Option Value} {x s : Str} {d : D} (X : K.In h) (Gn : h.Ns mainGlobals mg) (g : ∃ t, PySem.W.nsIn K mainGlobals x = some (some (.str s t))) (e : (match d with | .str m => decide (strV m = s) | _ => false) = true) : GlC mg x d := by
  obtain ⟨t, g⟩ := g
  cases d with
  | str m =>
    have e' : strV m = s := by simpa using e
    subst e'
    exact ⟨_, ⟨t, rfl⟩, PySem.W.mg_of X Gn g⟩
  | _ => cases e
theorem cx_no {P : Program} {w : World} {H : Hp} {s : Shared} {e : Value} {s' : Shared} (hx : L2.CX P w [] H s (fun _ _ _ => False) e s') : False := by
  obtain ⟨_, _, _, _, _, _, _, _, _, _, _, _, z⟩ := hx
  exact z
end NR

set_option Elab.async false
set_option linter.all false
set_option maxRecDepth 100000
/-! Texts: list(s), tuple(s), count, find, index of one sign; displays of dicts. -/
namespace NR
open PySem PySem.Spec PyProof.Rows L2
theorem vals_of_get : ∀ {xs : List V} {us : List Value}, xs.length = us.length → (∀ (i : Nat) (x : V) (u : Value), xs[i]? = some x → us[i]? = some u → RelV x u) → Vals xs us
  | [], [], _, _ => .nil
  | [], _ :: _, h, _ => by simp at h
  | _ :: _, [], h, _ => by simp at h
  | x :: xs, u :: us, h, k => .cons (k 0 x u rfl rfl) (vals_of_get (by simpa using h) fun i a b h1 h2 => k (i + 1) a b (by simpa using h1) (by simpa using h2))
def sgD (s : List Nat) : List D := s.map fun c => .str [c]
def sgV (s : List Nat) : List V := s.map fun c => .str (strV [c])
theorem sg_den {G : Cf} {et : List Addr} {H : Hp} : ∀ {s : List Nat}, DenL G et H (sgD s) (sgV s)
  | [] => by simp [sgD, sgV]
  | c :: s => denL_cons.mpr ⟨_, _, rfl, by simp [strV], sg_den⟩
theorem sg_vals {s : List Nat} {acc : Array Value} (h : ItemsOf (SignAt (strV s)) acc (strV s).cps.size) : Vals (sgV s) acc.toList := by
  obtain ⟨h1, h2⟩ := h
  refine vals_of_get ?_ fun i x u hx hu => ?_
  · simp [sgV, strV] at h1 ⊢
    exact h1.symm
  · obtain ⟨c, t, h3, h4⟩ := h2 i u (by simpa using hu)
    subst h4
    have h5 : s[i]? = some c := by simpa [strV] using h3
    unfold sgV at hx
    rw [List.getElem?_map, h5] at hx
    cases hx
    exact ⟨t, rfl⟩
section
variable {X : Cx} {G : Cf} {W : WX}
def rListS : List V → Hp → VK → Prop := fun xs H Q => ∃ z : List Nat, xs = [.str (strV z)] ∧ z.length ≤ 10000000 ∧ ∀ l, H l = none → Q (.ref l) (upd H l (.lst (sgV z)))
def rTupS : List V → Hp → VK → Prop := fun xs H Q => ∃ z : List Nat, xs = [.str (strV z)] ∧ z.length ≤ 10000000 ∧ ∀ l, H l = none → Q (.ref l) (upd H l (.tup (sgV z)))
theorem call_listS (hc : X.calm = true) : CallR X (.type "list") rListS := by
  intro pins s σ H xs us Q I r h
  obtain ⟨z, rfl, hz, q⟩ := h
  obtain ⟨u, rfl, t, rfl⟩ := vals1 r
  refine call_list_str (I.ok.hd hc) (strV z) t (fun h' tk acc c' hk hD hacc => ?_) (by show (strV z).length ≤ _; rw [strV_length]; exact sz hz)
  refine ⟨.ref s.heap.objs.size, upd H s.heap.objs.size (.lst (sgV z)), I.laid (t' := tk) hk (Nat.le_refl _)
    (show ObjOk X.prog X.w _ _ _ (.lst (sgV z)) from ⟨by simp only [sgV, List.length_map]; exact sz hz, acc.toList, c', sg_vals hacc, by rw [Array.toArray_toList]; exact hD⟩), rfl, q _ (I.hok.fresh (Nat.le_refl _))⟩
theorem call_tupS (hc : X.calm = true) : CallR X (.type "tuple") rTupS := by
  intro pins s σ H xs us Q I r h
  obtain ⟨z, rfl, hz, q⟩ := h
  obtain ⟨u, rfl, t, rfl⟩ := vals1 r
  refine call_tuple_str (I.ok.hd hc) (strV z) t (fun h' tk acc hk hacc => ?_) (by show (strV z).length ≤ _; rw [strV_length]; exact sz hz)
  have I1 : Inv X pins σ H { s with heap := h', toks := tk } := I.kept (t' := tk) hk
  refine ⟨.ref h'.objs.size, upd H h'.objs.size (.tup (sgV z)), I1.laid (t' := tk) (fun b o e => Heap.get?_push_of_some _ e) (Nat.le_refl _)
    (show ObjOk X.prog X.w _ _ _ (.tup (sgV z)) from ⟨by simp only [sgV, List.length_map]; exact sz hz, acc.toList, sg_vals hacc, ?_⟩), rfl, q _ (I1.hok.fresh (Nat.le_refl _))⟩
  have := IsTup.new h' acc.toList.toArray
  simpa using this
def bListX : List D → IH → R D
  | [.str s], h => if s.length ≤ 10000000 then .ok (.ref h.length) (h ++ [.lst (sgD s)]) else .no
  | xs, h => bList xs h
def bTupleX : List D → IH → R D
  | [.str s], h => if s.length ≤ 10000000 then .ok (.tup (sgD s)) h else .no
  | xs, h => bTuple xs h
def rListX (K : PySem.W.Frag) : List V → Hp → VK → Prop := fun xs H Q => rListA K xs H Q ∨ rListS xs H Q
def rTupleX (K : PySem.W.Frag) : List V → Hp → VK → Prop := fun xs H Q => rTupleA K xs H Q ∨ rTupS xs H Q
theorem call_listX (hc : X.calm = true) : CallR X (.type "list") (rListX X.K) := CallR.or call_listA (call_listS hc)
theorem call_tupleX (hc : X.calm = true) : CallR X (.type "tuple") (rTupleX X.K) := CallR.or call_tupleA (call_tupS hc)
theorem bListX_ok : CallS G (rListX G.K) bListX := by
  intro et H h xs vs W Q rv R p
  unfold bListX at p
  split at p
  · rename_i s
    obtain ⟨v, rfl, r⟩ := list1 rv
    split at p
    · rename_i l
      exact .inr ⟨s, by rw [den_str.mp r], l, p.newL R sg_den⟩
    · exact p.elim
  · exact .inl (bList_ok et H h xs vs W Q rv R p)
theorem bTupleX_ok : CallS G (rTupleX G.K) bTupleX := by
  intro et H h xs vs W Q rv R p
  unfold bTupleX at p
  split at p
  · rename_i s
    obtain ⟨v, rfl, r⟩ := list1 rv
    split at p
    · rename_i l
      exact .inr ⟨s, by rw [den_str.mp r], l, p.newT R sg_den⟩
    · exact p.elim
  · exact .inl (bTuple_ok et H h xs vs W Q rv R p)
end

/-! ### places of a sign -/
def fnd (c : Nat) : List Nat → Option Nat
  | [] => none
  | d :: s => if d = c then some 0 else (fnd c s).map (· + 1)
theorem fnd_none {c : Nat} : ∀ {s : List Nat}, fnd c s = none ↔ c ∉ s
  | [] => by simp [fnd]
  | d :: s => by
    unfold fnd
    by_cases e : d = c
    · simp [e]
    · rw [if_neg e]
      simp [fnd_none (s := s), Ne.symm e]
theorem fnd_some {c : Nat} : ∀ {s : List Nat} {i : Nat}, fnd c s = some i ↔ s[i]? = some c ∧ ∀ k, k < i → s[k]? ≠ some c
  | [], i => by simp [fnd]
  | d :: s, i => by
    unfold fnd
    by_cases e : d = c
    · rw [if_pos e]
      subst e
      constructor
      · intro h
        cases h
        exact ⟨rfl, fun k hk => absurd hk (Nat.not_lt_zero k)⟩
      · rintro ⟨h1, h2⟩
        cases i with
        | zero => rfl
        | succ i => exact absurd rfl (h2 0 (Nat.succ_pos i))
    · rw [if_neg e]
      cases i with
      | zero =>
        simp only [List.getElem?_cons_zero, Option.some.injEq, e, false_and, iff_false]
        cases fnd c s <;> simp
      | succ i =>
        rw [show (Option.map (· + 1) (fnd c s) = some (i + 1)) ↔ fnd c s = some i by cases fnd c s <;> simp, fnd_some (s := s)]
        constructor
        · rintro ⟨h1, h2⟩
          refine ⟨by simpa using h1, fun k hk => ?_⟩
          cases k with
          | zero => simpa using e
          | succ k => simpa using h2 k (by omega)
        · rintro ⟨h1, h2⟩
          exact ⟨by simpa using h1, fun k hk => by simpa using h2 (k + 1) (by omega)⟩
open Builtin.Str StrLaws in
theorem occ_fnd (s : List Nat) (c : Nat) : (match fnd c s with | some i => ∃ r, occurrences (strV s) (strV [c]) 0 (strV s).length 1 = i :: r | none => occurrences (strV s) (strV [c]) 0 (strV s).length 1 = []) := by
  have at_ : ∀ i, At (strV s) (strV [c]) (strV s).length i ↔ s[i]? = some c := fun i => by
    have := subAt_one (strV s) c i
    simpa [strV, At] using this
  rcases occ_head (strV s) (strV [c]) 1 (Nat.le_refl 1) with ⟨h1, h2⟩ | ⟨i, r, h1, h2, h3⟩
  · have : fnd c s = none := fnd_none.mpr fun hm => by
      obtain ⟨i, hi⟩ := List.mem_iff_getElem?.mp hm
      exact h2 i ((at_ i).mpr hi)
    rw [this]
    exact h1
  · have : fnd c s = some i := fnd_some.mpr ⟨(at_ i).mp h2, fun k hk e => h3 k hk ((at_ k).mpr e)⟩
    rw [this]
    exact ⟨r, h1⟩
open Builtin.Str StrLaws in
theorem occ_go (s : List Nat) (c limit : Nat) : ∀ (l : List Nat) (st : Array Nat × Nat), l.Pairwise (· < ·) → (∀ i ∈ l, st.2 ≤ i) → st.1.size + l.length ≤ limit →
    (forIn l st (occBody (strV s) (strV [c]) (strV s).length limit)).run.fst.toList = st.1.toList ++ l.filter (fun i => decide (s[i]? = some c))
  | [], st, _, _, _ => by simp
  | a :: l, st, hp, hf, hl => by
    have hp' := List.pairwise_cons.mp hp
    have ha : st.2 ≤ a := hf a List.mem_cons_self
    rw [List.length_cons] at hl
    have at_ : (a + (strV [c]).length ≤ (strV s).length ∧ subAt (strV s) (strV [c]) a = true) ↔ s[a]? = some c := by
      have := subAt_one (strV s) c a
      simpa [strV] using this
    rw [List.forIn_cons]
    unfold occBody
    by_cases hc : s[a]? = some c
    · have c1 : ((st.fst.size < limit ∧ st.snd ≤ a) ∧ a + (strV [c]).length ≤ (strV s).length) ∧ subAt (strV s) (strV [c]) a = true := ⟨⟨⟨by omega, ha⟩, (at_.mpr hc).1⟩, (at_.mpr hc).2⟩
      rw [if_pos c1]
      refine (occ_go s c limit l (st.1.push a, a + (strV [c]).length) hp'.2 (fun i hi => ?_) (by simp; omega)).trans ?_
      · have := hp'.1 i hi
        show a + (strV [c]).length ≤ i
        rw [strV_length]
        exact this
      · rw [List.filter_cons, if_pos (by simpa using hc)]
        simp
    · have c2 : ¬ (((st.fst.size < limit ∧ st.snd ≤ a) ∧ a + (strV [c]).length ≤ (strV s).length) ∧ subAt (strV s) (strV [c]) a = true) := fun z => hc (at_.mp ⟨z.1.2, z.2⟩)
      rw [if_neg c2]
      refine (occ_go s c limit l (st.1, st.2) hp'.2 (fun i hi => hf i (List.mem_cons_of_mem _ hi)) (by show st.1.size + l.length ≤ limit; omega)).trans ?_
      rw [List.filter_cons, if_neg (by simpa using hc)]
theorem filter_range (c : Nat) : ∀ (s : List Nat) (n : Nat), s.length ≤ n → ((List.range n).filter (fun i => decide (s[i]? = some c))).length = s.count c
  | [], n, _ => by simp
  | d :: s, 0, h => by simp at h
  | d :: s, n + 1, h => by
    rw [List.range_succ_eq_map, List.filter_cons, List.filter_map]
    have ih := filter_range c s n (by simpa using h)
    have e : ((fun i => decide ((d :: s)[i]? = some c)) ∘ Nat.succ) = fun i => decide (s[i]? = some c) := by funext i; simp
    rw [e]
    by_cases hd : d = c
    · subst hd
      simp [ih]
    · simp [ih, hd]
theorem count_one (s : List Nat) (c : Nat) : Txt.count (strV s) (strV [c]) = (s.count c : Nat) := by
  unfold Txt.count
  rw [StrLaws.occ_eq]
  have h := occ_go s c ((strV s).length + 1) (List.range' 0 ((strV s).length + 1 - 0)) (#[], 0) (List.pairwise_lt_range') (fun _ _ => Nat.zero_le _) (by simp)
  rw [h]
  have e : List.range' 0 ((strV s).length + 1 - 0) = List.range (s.length + 1) := by rw [strV_length, List.range_eq_range']; rfl
  rw [e]
  show (((([] : List Nat) ++ _).length : Nat) : Int) = _
  rw [List.nil_append, filter_range c s _ (by omega)]
theorem find_one (s : List Nat) (c : Nat) : Txt.find (strV s) (strV [c]) = match fnd c s with | some i => (i : Int) | none => -1 := by
  have := occ_fnd s c
  unfold Txt.find
  revert this
  cases fnd c s with
  | none => intro h; rw [h]
  | some i => rintro ⟨r, h⟩; rw [h]
def fCount : D → List D → IH → R D
  | .str s, [.str [c]], h => .ok (.int (s.count c : Nat)) h
  | _, _, _ => .no
def fFind : D → List D → IH → R D
  | .str s, [.str [c]], h => .ok (.int (match fnd c s with | some i => (i : Int) | none => -1)) h
  | _, _, _ => .no
def fIndex : D → List D → IH → R D
  | .str s, [.str [c]], h => match fnd c s with
    | some i => .ok (.int (i : Nat)) h
    | none => .no
  | _, _, _ => .no
section
variable {X : Cx} {G : Cf} {W : WX}
theorem fCount_ok : MethS G (fun x xs H Q => ∃ a b, x = .str a ∧ xs = [.str b] ∧ Q (.int (Txt.count a b)) H) fCount := by
  intro et H h x v xs vs W Q rx rv R p
  unfold fCount at p
  split at p
  · obtain ⟨w, rfl, r⟩ := list1 rv
    exact ⟨_, _, den_str.mp rx, by rw [den_str.mp r], p.here R _ (by rw [count_one]; simp)⟩
  · exact p.elim
theorem fFind_ok : MethS G (fun x xs H Q => ∃ a b, x = .str a ∧ xs = [.str b] ∧ Q (.int (Txt.find a b)) H) fFind := by
  intro et H h x v xs vs W Q rx rv R p
  unfold fFind at p
  split at p
  · obtain ⟨w, rfl, r⟩ := list1 rv
    exact ⟨_, _, den_str.mp rx, by rw [den_str.mp r], p.here R _ (by rw [find_one]; simp)⟩
  · exact p.elim
theorem fIndex_ok : MethS G (fun x xs H Q => ∃ a b i rest, x = .str a ∧ xs = [.str b] ∧ Builtin.Str.occurrences a b 0 a.length 1 = i :: rest ∧ Q (.int (i : Nat)) H) fIndex := by
  intro et H h x v xs vs W Q rx rv R p
  unfold fIndex at p
  split at p
  · rename_i s c
    obtain ⟨w, rfl, r⟩ := list1 rv
    have o := occ_fnd s c
    revert p o
    cases fnd c s with
    | none => exact fun p => p.elim
    | some i =>
      rintro p ⟨rest, o⟩
      exact ⟨_, _, i, rest, den_str.mp rx, by rw [den_str.mp r], o, p.here R _ (by simp)⟩
  · exact p.elim
end

/-! ### displays of dicts: texts and ints as keys -/
def keyD? : D → Option DKey
  | .int i => some (.inl i)
  | .str s => some (.inr s)
  | _ => none
def putKD {κ : Type} [DecidableEq κ] (kvs : List (κ × D)) (k : κ) (v : D) : List (κ × D) := if (kvs.any fun p => decide (p.1 = k)) = true then kvs.map (fun p => if p.1 = k then (p.1, v) else p) else kvs ++ [(k, v)]
def mPr : List (ME × ME) → EV → IH → R (List (D × D))
  | [], _, h => .ok [] h
  | (k, v) :: r, env, h => (k env h).bind fun x h1 => (v env h1).bind fun y h2 => (mPr r env h2).bind fun ps h3 => .ok ((x, y) :: ps) h3
def keyPs : List (D × D) → Option (List (DKey × D))
  | [] => some []
  | p :: r => match keyD? p.1, keyPs r with
    | some k, some l => some ((k, p.2) :: l)
    | _, _ => none
def dkAt (h : IH) (n : Nat) : Bool := match h[n]? with
  | some (.dk []) => true
  | _ => false
def mDict (ps : List (ME × ME)) : ME := fun env h => (mPr ps env (h ++ [.dk []])).bind fun qs h1 => match keyPs qs with
  | some kvs => if kvs.length ≤ 15 ∧ dkAt h1 h.length = true then .ok (.ref h.length) (h1.set h.length (.dk (kvs.foldl (fun acc p => putKD acc p.1 p.2) []))) else .no
  | none => .no
theorem keyV_inj {a b : DKey} (e : keyV a = keyV b) : a = b := by
  cases a <;> cases b <;> simp [keyV] at e
  · rw [e]
  · rw [strV_inj e]
theorem any_keys {κ κ' : Type} [DecidableEq κ] [DecidableEq κ'] {f : κ → κ'} (inj : ∀ a b, f a = f b → a = b) (k : κ) : ∀ {kvs : List (κ × D)} {ws : List (κ' × V)}, ws.map (·.1) = kvs.map (fun p => f p.1) → (ws.any fun p => decide (p.1 = f k)) = kvs.any fun p => decide (p.1 = k)
  | [], [], _ => rfl
  | [], _ :: _, h => by simp at h
  | _ :: _, [], h => by simp at h
  | p :: kvs, q :: ws, h => by
    simp only [List.map_cons, List.cons.injEq] at h
    rw [List.any_cons, List.any_cons, any_keys inj k h.2, h.1]
    congr 1
    exact decide_eq_decide.mpr ⟨inj _ _, fun e => by rw [e]⟩
theorem denK_set {κ κ' : Type} [DecidableEq κ] [DecidableEq κ'] {f : κ → κ'} (inj : ∀ a b, f a = f b → a = b) {G : Cf} {et : List Addr} {H : Hp} {k : κ} {d : D} {v : V} (r : Den G et H d v) : ∀ {kvs : List (κ × D)} {ws : List (κ' × V)}, DenK f G et H kvs ws →
    DenK f G et H (kvs.map fun p => if p.1 = k then (p.1, d) else p) (ws.map fun p => if p.1 = f k then (p.1, v) else p)
  | [], [], _ => ⟨rfl, by simp⟩
  | [], _ :: _, h => by have := h.1; simp at this
  | _ :: _, [], h => by have := h.1; simp at this
  | p :: kvs, q :: ws, h => by
    obtain ⟨h1, h2⟩ := h
    simp only [List.map_cons, List.cons.injEq] at h1
    simp only [List.map_cons] at h2
    obtain ⟨v0, ws0, e0, h3, h4⟩ := denL_cons.mp h2
    simp only [List.cons.injEq] at e0
    obtain ⟨rfl, rfl⟩ := e0
    obtain ⟨i1, i2⟩ := denK_set inj r (kvs := kvs) (ws := ws) ⟨h1.2, h4⟩
    by_cases e : p.1 = k
    · have e' : q.1 = f k := by rw [h1.1, e]
      refine ⟨?_, ?_⟩
      · simp only [List.map_cons, e, e', if_pos]
        rw [i1]
      · simp only [List.map_cons, if_pos e, if_pos e']
        exact denL_cons.mpr ⟨v, _, rfl, r, i2⟩
    · have e' : ¬ q.1 = f k := fun z => e (inj _ _ (h1.1.symm.trans z))
      refine ⟨?_, ?_⟩
      · simp only [List.map_cons, if_neg e, if_neg e']
        rw [i1, h1.1]
      · simp only [List.map_cons, if_neg e, if_neg e']
        exact denL_cons.mpr ⟨q.2, _, rfl, h3, i2⟩
theorem denK_put {κ κ' : Type} [DecidableEq κ] [DecidableEq κ'] {f : κ → κ'} (inj : ∀ a b, f a = f b → a = b) {G : Cf} {et : List Addr} {H : Hp} {k : κ} {d : D} {v : V} (r : Den G et H d v) {kvs : List (κ × D)} {ws : List (κ' × V)} (h : DenK f G et H kvs ws) :
    DenK f G et H (putKD kvs k d) (putK ws (f k) v) := by
  unfold putKD putK
  rw [any_keys inj k h.1]
  split
  · exact denK_set inj r h
  · exact ⟨by simp [h.1], by
      rw [List.map_append, List.map_append]
      exact DenL.app h.2 (denL_cons.mpr ⟨v, [], rfl, r, by simp⟩)⟩
theorem denK_fold {G : Cf} {et : List Addr} {H : Hp} : ∀ {more : List (DKey × D)} {mw : List (Key × V)} {kvs : List (DKey × D)} {ws : List (Key × V)}, DenK keyV G et H more mw → DenK keyV G et H kvs ws → DenK keyV G et H (more.foldl (fun acc p => putKD acc p.1 p.2) kvs) (mergeK ws mw)
  | [], [], _, _, _, h => h
  | [], _ :: _, _, _, h, _ => by have := h.1; simp at this
  | _ :: _, [], _, _, h, _ => by have := h.1; simp at this
  | p :: more, q :: mw, kvs, ws, h, h0 => by
    obtain ⟨h1, h2⟩ := h
    simp only [List.map_cons, List.cons.injEq] at h1
    simp only [List.map_cons] at h2
    obtain ⟨v0, ws0, e0, h3, h4⟩ := denL_cons.mp h2
    simp only [List.cons.injEq] at e0
    obtain ⟨rfl, rfl⟩ := e0
    show DenK keyV G et H (more.foldl _ (putKD kvs p.1 p.2)) (mergeK (putK ws q.1 q.2) mw)
    refine denK_fold ⟨h1.2, h4⟩ ?_
    rw [h1.1]
    exact denK_put (fun a b => keyV_inj) h3 h0
theorem keyPs_ok {G : Cf} {et : List Addr} {H : Hp} : ∀ {ps : List (D × D)} {kvs : List (DKey × D)} {vs : List (V × V)}, keyPs ps = some kvs → DenL G et H (ps.map (·.1)) (vs.map (·.1)) → DenL G et H (ps.map (·.2)) (vs.map (·.2)) → ∃ ws : List (Key × V), vs = ws.map (fun kv => (kV kv.1, kv.2)) ∧ DenK keyV G et H kvs ws
  | [], kvs, [], e, _, _ => by
    simp only [keyPs, Option.some.injEq] at e
    subst e
    exact ⟨[], rfl, rfl, by simp⟩
  | [], _, _ :: _, _, h, _ => by
    have := h.len
    simp at this
  | _ :: _, _, [], _, h, _ => by
    have := h.len
    simp at this
  | p :: ps, kvs, q :: vs, e, h1, h2 => by
    unfold keyPs at e
    split at e
    · rename_i k l e1 e2
      cases e
      simp only [List.map_cons] at h1 h2
      obtain ⟨v0, w0, z0, a1, a2⟩ := denL_cons.mp h1
      simp only [List.cons.injEq] at z0
      obtain ⟨rfl, rfl⟩ := z0
      obtain ⟨v0, w0, z0, b1, b2⟩ := denL_cons.mp h2
      simp only [List.cons.injEq] at z0
      obtain ⟨rfl, rfl⟩ := z0
      obtain ⟨ws, rfl, c1, c2⟩ := keyPs_ok e2 a2 b2
      refine ⟨(keyV k, q.2) :: ws, ?_, ?_, ?_⟩
      · have : q.1 = kV (keyV k) := by
          unfold keyD? at e1
          split at e1
          · rename_i i he; cases e1; rw [he] at a1; exact den_int.mp a1
          · rename_i i he; cases e1; rw [he] at a1; exact den_str.mp a1
          · cases e1
        obtain ⟨q1, q2⟩ := q
        simp only at this
        subst this
        rfl
      · simp [c1]
      · exact denL_cons.mpr ⟨q.2, _, rfl, b1, c2⟩
    · cases e
section
variable {X : Cx} {G : Cf} {W : WX} {pos : Pos}
/-- the pairs of a display -/
structure Prs (X : Cx) (G : Cf) (W : WX) (pos : Pos) (keys : List (Option Expr)) (values : List Expr) (ps : List (ME × ME)) : Prop where
  pp : PPs X pos keys values (ps.map fun p => (tE G W p.1, tE G W p.2))
theorem prs_nil : Prs X G W pos [] [] [] := ⟨pps_nil⟩
theorem prs_cons {k v : Expr} {ks : List (Option Expr)} {vs : List Expr} {mk mv : ME} {ps : List (ME × ME)} (hk : PE X k (tE G W mk)) (hv : PE X v (tE G W mv)) (h : Prs X G W pos ks vs ps) : Prs X G W pos (some k :: ks) (v :: vs) ((mk, mv) :: ps) := ⟨pps_cons hk hv h.pp⟩
theorem tPairs_of {σ : L2.St} : ∀ {ps : List (ME × ME)} {H : Hp} {Q : List (V × V) → Hp → Prop} {et : List Addr} {env : EV} {h : IH}, EnvR G et H env σ → HRel G et h H →
    Pst G et H (mPr ps env h) (fun et' H' h' qs => HRel G et' h' H' → ∀ vs : List (V × V), DenL G et' H' (qs.map (·.1)) (vs.map (·.1)) → DenL G et' H' (qs.map (·.2)) (vs.map (·.2)) → Q vs H') (fun c d H' => W c d σ H') →
    tPairs (ps.map fun p => (tE G W p.1, tE G W p.2)) σ H Q
  | [], H, Q, et, env, h, hE, hH, hP => hP et H List.prefix_rfl (Ext.refl H) hH hH [] (by simp) (by simp)
  | (k, v) :: ps, H, Q, et, env, h, hE, hH, hP => by
    refine ⟨et, env, h, hE, hH, (Pst.of_bind hP).imp fun et1 H1 h1 x p1 e1 hr1 q1 vx hx => ?_⟩
    have hE1 := hE.mono p1 e1
    refine ⟨et1, env, h1, hE1, hr1, (Pst.of_bind q1).imp fun et2 H2 h2 y p2 e2 hr2 q2 vy hy => ?_⟩
    have hE2 := hE1.mono p2 e2
    refine tPairs_of hE2 hr2 ((Pst.of_bind q2).imp fun et3 H3 h3 qs p3 e3 hr3 q3 _ vs a1 a2 => ?_)
    exact q3 et3 H3 List.prefix_rfl (Ext.refl _) hr3 hr3 ((vx, vy) :: vs) (denL_cons.mpr ⟨vx, _, rfl, (hx.mono p2 e2).mono p3 e3, a1⟩) (denL_cons.mpr ⟨vy, _, rfl, hy.mono p3 e3, a2⟩)
theorem me_dict {keys : List (Option Expr)} {values : List Expr} {ps : List (ME × ME)} (h : Prs X G W pos keys values ps) (hall : keys.all (·.isSome) = true := by rfl) (hl : keys.length = values.length := by rfl) (h0 : keys ≠ [] := by exact fun z => nomatch z) (h15 : keys.length ≤ 15 := by decide) :
    PE X (.Dict keys values pos) (tE G W (mDict ps)) := PE.imp (pe_disp h.pp hall hl h0 h15) fun σ H Q ⟨et, env, h, hE, hH, hP⟩ p hp => by
  have hH1 : HRel G (et ++ [p]) (h ++ [.dk []]) (upd H p (.dK [])) := hH.push hp ⟨[], upd_same, rfl, by simp⟩
  have pf : et <+: et ++ [p] := List.prefix_append _ _
  refine tPairs_of (hE.mono pf (Ext.new hp)) hH1 ((Pst.of_bind (Pst.weak pf (Ext.new hp) hP)).imp fun et2 H2 h2 qs p2 e2 hr2 q2 => ?_)
  split at q2
  · rename_i kvs ek
    split at q2
    · rename_i c
      intro _ vs a1 a2
      obtain ⟨ws, rfl, k1⟩ := keyPs_ok ek a1 a2
      have hp2 : et2[h.length]? = some p := by
        obtain ⟨t, rfl⟩ := p2
        rw [List.getElem?_append_left (by simp [hH.len]), ← hH.len]
        simp
      have hc := c.2
      unfold dkAt at hc
      split at hc
      · rename_i hcell
        obtain ⟨w0, c1, c2, c3⟩ := hr2.cell _ _ p hcell hp2
        have w00 : w0 = [] := by simpa using c2
        subst w00
        have hl : ws.length = kvs.length := by have := congrArg List.length k1.1; simpa using this
        refine ⟨c1, ws, rfl, by rw [hl]; exact c.1, ?_⟩
        have hcl : CellOk G et2 (upd H2 p (.dK (mergeK [] ws))) p (.dk (kvs.foldl (fun acc p => putKD acc p.1 p.2) [])) :=
          ⟨_, upd_same, (denK_fold k1 (kvs := []) (ws := []) ⟨rfl, by simp⟩).mono List.prefix_rfl (Ext.mut c1 trivial)⟩
        exact q2 et2 _ List.prefix_rfl (Ext.mut c1 trivial) (hr2.set hcell hp2 rfl c1 trivial hcl) _ (den_ref.mpr ⟨p, hp2, rfl⟩)
      · cases hc
    · exact q2.elim
  · exact q2.elim
theorem me_dict0 : PE X (.Dict [] [] pos) (tE G W (mDict [])) := PE.imp pe_dnewK fun σ H Q ⟨et, env, h, hE, hH, hP⟩ p hp => by
  have hH1 : HRel G (et ++ [p]) (h ++ [.dk []]) (upd H p (.dK [])) := hH.push hp ⟨[], upd_same, rfl, by simp⟩
  have e : mDict [] env h = .ok (.ref h.length) (h ++ [.dk []]) := by
    simp [mDict, mPr, R.bind, keyPs, dkAt]
  rw [e] at hP
  refine hP (et ++ [p]) _ (List.prefix_append _ _) (Ext.new hp) hH1 _ (den_ref.mpr ⟨p, ?_, rfl⟩)
  rw [← hH.len]
  simp
end
end NR

set_option Elab.async false
set_option linter.all false
set_option maxRecDepth 100000
/-! Lists and dicts that are locked: values from then on. -/
namespace NR
open PySem PySem.Spec PyProof.Rows L2
open Classical in
/-- what an expression made anew is locked -/
noncomputable def fzR (h : IH) (r : R D) : R D := match r with
  | .ok (.ref n) h' => match h'[n]? with
    | some (.lst xs) => if h.length ≤ n ∧ D.loL h.length xs = true ∧ okB h.length h h' then .ok (.fl xs) (h'.take h.length) else .ok (.ref n) h'
    | some (.dk kvs) => if h.length ≤ n ∧ D.loL h.length (kvs.map (·.2)) = true ∧ okB h.length h h' then .ok (.fd (kvs.map (·.1)) (kvs.map (·.2))) (h'.take h.length) else .ok (.ref n) h'
    | _ => .ok (.ref n) h'
  | r => r
noncomputable def mFz (m : ME) : ME := fun env h => fzR h (m env h)
/-- a variable's list is locked ahead of a statement -/
def msFz (i : Nat) (b : MS) : MS := fun env h => match env[i]? with
  | some (some (.ref n)) => match h[n]? with
    | some (.lst xs) => b (env.set i (some (.fl xs))) (h.set n (.frz xs))
    | _ => b env h
  | _ => b env h
section
variable {G : Cf} {et et' : List Addr} {H H' : Hp} {h h' : IH}
theorem HRel.lock (R : HRel G et h H) {a : Addr} {o u : HO} (ho : H a = some o) (mu : Mut (some o)) (nin : ∀ (n : Nat) (c : Cell), h[n]? = some c → et[n]? = some a → c.isFrz = true) : HRel G et h (upd H a u) := by
  have ex : Ext H (upd H a u) := Ext.mut ho mu
  refine ⟨R.len, R.nd, fun n c b h1 h2 => ?_⟩
  have old := R.cell n c b h1 h2
  by_cases nb : b = a
  · subst nb
    have hf := nin n c h1 h2
    cases c with
    | frz xs =>
      obtain ⟨vs, h5, h6⟩ := old
      exact ⟨vs, h5.ext ex, h6.mono List.prefix_rfl ex⟩
    | _ => cases hf
  · exact old.mono List.prefix_rfl ex fun w e => by rw [upd_ne nb]; exact e
/-- a new cell is locked and forgotten -/
theorem HRel.lockNew {R0 : HRel G et h H} (R : HRel G et' h' H') (p : et <+: et') {n : Nat} {a : Addr} {c : Cell} {o u : HO} (hn : h'[n]? = some c) (ha : et'[n]? = some a) (f : c.isFrz = false) (ho : H' a = some o) (mu : Mut (some o)) (ln : h.length ≤ n)
    (ok : okB h.length h h') : HRel G et (h'.take h.length) (upd H' a u) := by
  have al := okB_all R0 ok
  have R1 := R.cut p al
  rw [R0.len] at R1
  refine R1.lock ho mu fun m c' h1 h2 => ?_
  have hm : m < h.length := by
    have := (List.getElem?_eq_some_iff.mp h1).1
    rw [List.length_take] at this
    omega
  rw [List.getElem?_take_of_lt hm] at h1
  obtain ⟨t, rfl⟩ := p
  have h3 : (et ++ t)[m]? = some a := by
    rw [List.getElem?_append_left (by rw [R0.len]; exact hm)]
    exact h2
  cases hf : c'.isFrz with
  | true => rfl
  | false =>
    have := R.nd m n c' c a h1 hn h3 ha hf f
    omega
end
section
variable {X : Cx} {G : Cf} {W : WX} {e : Expr} {m : ME} {st : Stmt} {b : MS}
theorem me_fz (he : PE X e (tE G W m)) : PE X e (tE G W (mFz m)) := ⟨fun pins s σ H Q I ⟨et, env, h, hE, hH, hP⟩ => by
  have main : Pst G et H (m env h) (fun et' H' _ d => ∀ v, Den G et' H' d v → Q v H' ∨ ∃ a u, H' a = some u ∧ Mut (some u) ∧ ∀ od, Q v (upd H' a (.frz od u))) (fun c d H' => W c d σ H') := by
    have hP : Pst G et H (fzR h (m env h)) _ _ := hP
    revert hP
    cases m env h with
    | no => exact fun z => z
    | ex c d h' => exact fun z => z
    | ok d h' =>
      intro hP
      have dull : Pst G et H (.ok d h') (fun et' H' _ d => ∀ v, Den G et' H' d v → Q v H') (fun c d H' => W c d σ H') → Pst G et H (.ok d h') (fun et' H' _ d => ∀ v, Den G et' H' d v → Q v H' ∨ ∃ a u, H' a = some u ∧ Mut (some u) ∧ ∀ od, Q v (upd H' a (.frz od u))) (fun c d H' => W c d σ H') := fun z => z.imp fun et1 H1 h1 a p e hr q v hv => .inl (q v hv)
      unfold fzR at hP
      split at hP
      · rename_i n h2 heq
        cases heq
        split at hP
        · rename_i xs hx
          split at hP
          · rename_i c
            intro et' H' p e hr v hv
            obtain ⟨a, ha, rfl⟩ := den_ref.mp hv
            obtain ⟨vs, k1, k2⟩ := hr.cell n _ a hx ha
            refine .inr ⟨a, .lst vs, k1, True.intro, fun od => ?_⟩
            have hr2 : HRel G et (h'.take h.length) (upd H' a (.frz od (.lst vs))) := HRel.lockNew (R0 := hH) hr p hx ha rfl k1 True.intro c.1 c.2.2
            have ex : Ext H' (upd H' a (.frz od (.lst vs))) := Ext.mut k1 True.intro
            have lo := c.2.1
            rw [← hH.len] at lo
            exact hP et _ List.prefix_rfl (e.trans ex) hr2 _ (den_fl.mpr ⟨a, vs, rfl, ⟨od, upd_same⟩, (k2.back p lo).mono List.prefix_rfl ex⟩)
          · exact dull hP
        · rename_i xs hx
          split at hP
          · rename_i c
            intro et' H' p e hr v hv
            obtain ⟨a, ha, rfl⟩ := den_ref.mp hv
            obtain ⟨ws, k1, k2, k3⟩ := hr.cell n _ a hx ha
            refine .inr ⟨a, .dK ws, k1, True.intro, fun od => ?_⟩
            have hr2 : HRel G et (h'.take h.length) (upd H' a (.frz od (.dK ws))) := HRel.lockNew (R0 := hH) hr p hx ha rfl k1 True.intro c.1 c.2.2
            have ex : Ext H' (upd H' a (.frz od (.dK ws))) := Ext.mut k1 True.intro
            have lo := c.2.1
            rw [← hH.len] at lo
            exact hP et _ List.prefix_rfl (e.trans ex) hr2 _ (den_fd.mpr ⟨a, ws, rfl, ⟨od, upd_same⟩, by rw [k2, List.map_map]; rfl, (k3.back p lo).mono List.prefix_rfl ex⟩)
          · exact dull hP
        · exact dull hP
      · exact dull hP
  refine thn (he.run pins s σ H _ I ⟨et, env, h, hE, hH, main⟩) fun v s1 ⟨x, H1, I1, r, q⟩ => ?_
  rcases q with q | ⟨a, u, k1, mu, q⟩
  · exact ⟨x, H1, I1, r, q⟩
  · obtain ⟨od, I2⟩ := I1.lock k1 mu
    exact ⟨x, _, I2, r, q od⟩⟩
theorem ms_fz (i : Nat) (hs : PS X st (tS G W b)) : PS X st (tS G W (msFz i b)) := ⟨fun pins s σ H D I ⟨et, env, h, hE, hH, hP⟩ => by
  unfold msFz at hP
  split at hP
  · rename_i n he
    split at hP
    · rename_i xs hx
      obtain ⟨v, e1, r⟩ := hE.2 i _ he
      obtain ⟨a, ha, rfl⟩ := den_ref.mp r
      obtain ⟨vs, k1, k2⟩ := hH.cell n _ a hx ha
      obtain ⟨od, I1⟩ := I.lock k1 True.intro
      have ex : Ext H (upd H a (.frz od (.lst vs))) := Ext.mut k1 True.intro
      have hf : DenL G et (upd H a (.frz od (.lst vs))) xs vs := k2.mono List.prefix_rfl ex
      have hE1 := (hE.mono (et' := et) List.prefix_rfl ex).set i (den_fl.mpr ⟨a, vs, rfl, ⟨od, upd_same⟩, hf⟩)
      have es : σ.set i (some (.ref a)) = σ := by
        apply List.ext_getElem?
        intro j
        by_cases hj : i = j
        · subst hj
          rw [List.getElem?_set_self (List.getElem?_eq_some_iff.mp e1).1, e1]
        · rw [List.getElem?_set_ne hj]
      rw [es] at hE1
      have hc : CellOk G et (upd H a (.frz od (.lst vs))) a (.frz xs) := ⟨vs, .inl ⟨od, upd_same⟩, hf⟩
      exact hs.run pins s σ _ D I1 ⟨et, _, _, hE1, hH.set hx ha rfl k1 True.intro hc, hP.weak List.prefix_rfl ex⟩
    · exact hs.run pins s σ H D I ⟨et, env, h, hE, hH, hP⟩
  · exact hs.run pins s σ H D I ⟨et, env, h, hE, hH, hP⟩⟩
theorem ms_setF {i : Nat} (hs : PS X st (tS G W (msSet i m))) : PS X st (tS G W (msSet i (mFz m))) := ⟨fun pins s σ H D I ⟨et, env, h, hE, hH, hP⟩ => by
  have main : PstS G et H (msSet i m env h) { D with nx := fun σ' H' => D.nx σ' H' ∨ ∃ a u, H' a = some u ∧ Mut (some u) ∧ ∀ od, D.nx σ' (upd H' a (.frz od u)) } W := by
    have hP : PstS G et H ((fzR h (m env h)).bindS env fun d h1 => .nx (env.set i (some d)) h1) D W := hP
    show PstS G et H ((m env h).bindS env fun d h1 => .nx (env.set i (some d)) h1) _ W
    revert hP
    cases m env h with
    | no => exact fun z => z
    | ex c d h' => exact fun z => z
    | ok d h' =>
      intro hP
      have dull : PstS G et H (.nx (env.set i (some d)) h') D W → PstS G et H (.nx (env.set i (some d)) h') { D with nx := fun σ' H' => D.nx σ' H' ∨ ∃ a u, H' a = some u ∧ Mut (some u) ∧ ∀ od, D.nx σ' (upd H' a (.frz od u)) } W := fun z et1 H1 σ1 p e r E => .inl (z et1 H1 σ1 p e r E)
      have slots : ∀ {n : Nat} {et' : List Addr} {H' : Hp} {σ' : L2.St} {a : Addr} {d' : NR.D} {H2 : Hp}, EnvR G et' H' (env.set i (some (.ref n))) σ' → et <+: et' → et'[n]? = some a → Ext H' H2 → Den G et H2 d' (.ref a) → EnvR G et H2 (env.set i (some d')) σ' := fun {n et' H' σ' a d' H2} E p ha ex r => by
        refine ⟨by have := E.1; simpa using this, fun j d'' q => ?_⟩
        by_cases hj : i = j
        · subst hj
          by_cases hl : i < env.length
          · rw [List.getElem?_set_self hl] at q
            cases q
            obtain ⟨v, e1, r1⟩ := E.2 i (.ref n) (by rw [List.getElem?_set_self hl])
            obtain ⟨b, hb, rfl⟩ := den_ref.mp r1
            rw [ha] at hb
            cases hb
            exact ⟨_, e1, r⟩
          · rw [List.getElem?_eq_none (by simp; omega)] at q
            cases q
        · rw [List.getElem?_set_ne hj] at q
          obtain ⟨v0, _, r0⟩ := hE.2 j d'' q
          obtain ⟨v, e1, r1⟩ := E.2 j d'' (by rw [List.getElem?_set_ne hj]; exact q)
          exact ⟨v, e1, (r1.back p r0.lo).mono List.prefix_rfl ex⟩
      unfold fzR at hP
      split at hP
      · rename_i n h2 heq
        cases heq
        split at hP
        · rename_i xs hx
          split at hP
          · rename_i c
            intro et' H' σ' p e hr E
            obtain ⟨a, ha⟩ := hr.addr hx
            obtain ⟨vs, k1, k2⟩ := hr.cell n _ a hx ha
            refine .inr ⟨a, .lst vs, k1, True.intro, fun od => ?_⟩
            have hr2 : HRel G et (h'.take h.length) (upd H' a (.frz od (.lst vs))) := HRel.lockNew (R0 := hH) hr p hx ha rfl k1 True.intro c.1 c.2.2
            have ex : Ext H' (upd H' a (.frz od (.lst vs))) := Ext.mut k1 True.intro
            have lo := c.2.1
            rw [← hH.len] at lo
            exact hP et _ σ' List.prefix_rfl (e.trans ex) hr2 (slots E p ha ex (den_fl.mpr ⟨a, vs, rfl, ⟨od, upd_same⟩, (k2.back p lo).mono List.prefix_rfl ex⟩))
          · exact dull hP
        · rename_i xs hx
          split at hP
          · rename_i c
            intro et' H' σ' p e hr E
            obtain ⟨a, ha⟩ := hr.addr hx
            obtain ⟨ws, k1, k2, k3⟩ := hr.cell n _ a hx ha
            refine .inr ⟨a, .dK ws, k1, True.intro, fun od => ?_⟩
            have hr2 : HRel G et (h'.take h.length) (upd H' a (.frz od (.dK ws))) := HRel.lockNew (R0 := hH) hr p hx ha rfl k1 True.intro c.1 c.2.2
            have ex : Ext H' (upd H' a (.frz od (.dK ws))) := Ext.mut k1 True.intro
            have lo := c.2.1
            rw [← hH.len] at lo
            exact hP et _ σ' List.prefix_rfl (e.trans ex) hr2 (slots E p ha ex (den_fd.mpr ⟨a, ws, rfl, ⟨od, upd_same⟩, by rw [k2, List.map_map]; rfl, (k3.back p lo).mono List.prefix_rfl ex⟩))
          · exact dull hP
        · exact dull hP
      · exact dull hP
  refine thn (hs.run pins s σ H _ I ⟨et, env, h, hE, hH, main⟩) fun f s1 q => ?_
  cases f with
  | next =>
    obtain ⟨σ', H', I2, q⟩ := q
    rcases q with q | ⟨a, u, k1, mu, q⟩
    · exact ⟨σ', H', I2, q⟩
    · obtain ⟨od, I3⟩ := I2.lock k1 mu
      exact ⟨σ', _, I3, q od⟩
  | brk => exact q
  | cont => exact q
  | ret v => exact q⟩
end
end NR

set_option Elab.async false
set_option linter.all false
set_option maxRecDepth 100000
/-! Exceptions: raise, try .. except X (as e), isinstance of what is caught. -/
namespace NR
open PySem PySem.Spec PyProof.Rows L2
/-- classes by their names -/
def clOf (l : List (Str × Addr)) (s : Str) : Addr := (l.lookup s).getD 0
/-- ValueError, or an own class -/
def clV (cl : Str → Addr) (y : Str) : V := if y = "ValueError" then .ty "ValueError" else .ref (cl y)
def clU (cl : Str → Addr) (y : Str) : Value := if y = "ValueError" then .type "ValueError" else .ref (cl y)
abbrev CTab := List ((Str × Str) × Bool)
def CTab.get (t : CTab) (c y : Str) : Option Bool := t.lookup (c, y)
/-- an own class over ValueError, without __init__ -/
structure ExC1 (K : PySem.W.Frag) (mg : Str → Option Value) (x : Str) (C : Addr) : Prop where
  g : mg x = some (.ref C)
  q : PySem.W.excIn K C [.type "ValueError", .type "Exception", .type "BaseException", .type "object"] "ValueError.__new__" = true
  k : PySem.W.keepIn K (.ref C) = true
  b : PySem.W.subIn K (.ref C) (.type "BaseException") = some true
  t : PySem.W.typeIn K (.ref C) = some (.type "type")
  e : ExcC K C
/-- pairs of classes: is the one under the other (as a clause asks, as isinstance asks) -/
def ExH (K : PySem.W.Frag) (cl : Str → Addr) (t : CTab) : Prop := ∀ p ∈ t, PySem.W.exmOne K (.ref (cl p.1.1)) (clU cl p.1.2) = some p.2
def ExI (K : PySem.W.Frag) (cl : Str → Addr) (t : CTab) : Prop := ∀ p ∈ t, PySem.W.kitOne K (.ref (cl p.1.1)) (clU cl p.1.2) = some p.2 ∧ ExcC K (cl p.1.1)
theorem exH_nil {K : PySem.W.Frag} {cl : Str → Addr} : ExH K cl [] := fun _ h => by cases h
theorem exH_cons {K : PySem.W.Frag} {cl : Str → Addr} {t : CTab} {p : (Str × Str) × Bool} (h : PySem.W.exmOne K (.ref (cl p.1.1)) (clU cl p.1.2) = some p.2) (r : ExH K cl t) : ExH K cl (p :: t) := fun q hq => by
  rcases List.mem_cons.mp hq with rfl | hq
  · exact h
  · exact r q hq
theorem exI_nil {K : PySem.W.Frag} {cl : Str → Addr} : ExI K cl [] := fun _ h => by cases h
theorem exI_cons {K : PySem.W.Frag} {cl : Str → Addr} {t : CTab} {p : (Str × Str) × Bool} (h : PySem.W.kitOne K (.ref (cl p.1.1)) (clU cl p.1.2) = some p.2) (e : ExcC K (cl p.1.1)) (r : ExI K cl t) : ExI K cl (p :: t) := fun q hq => by
  rcases List.mem_cons.mp hq with rfl | hq
  · exact ⟨h, e⟩
  · exact r q hq
theorem CTab.mem : ∀ {t : CTab} {c y : Str} {b : Bool}, t.get c y = some b → ((c, y), b) ∈ t
  | [], _, _, _, h => by simp [CTab.get] at h
  | (k, v) :: t, c, y, b, h => by
    unfold CTab.get at h
    rw [List.lookup_cons] at h
    split at h
    · rename_i e
      cases h
      have := eq_of_beq e
      rw [← this]
      exact List.mem_cons_self
    · exact List.mem_cons_of_mem _ (CTab.mem (t := t) h)
theorem ExH.get {K : PySem.W.Frag} {cl : Str → Addr} {t : CTab} (x : ExH K cl t) {c y : Str} {b : Bool} (h : t.get c y = some b) : PySem.W.exmOne K (.ref (cl c)) (clU cl y) = some b := x _ (CTab.mem h)
theorem ExI.get {K : PySem.W.Frag} {cl : Str → Addr} {t : CTab} (x : ExI K cl t) {c y : Str} {b : Bool} (h : t.get c y = some b) : PySem.W.kitOne K (.ref (cl c)) (clU cl y) = some b ∧ ExcC K (cl c) := x _ (CTab.mem h)

theorem kit_ref {K : PySem.W.Frag} {C D : Addr} {b : Bool} (hdct : PySem.W.hasDictIn K C = true) (ht : PySem.W.typeIn K (.ref C) = some (.type "type")) (h : PySem.W.subIn K (.ref D) (.ref C) = some b) (h0 : PySem.W.subIn K (.ref C) (.ref C) = some true) : PySem.W.kitOne K (.ref D) (.ref C) = some b := by
  obtain ⟨cd, hc, _⟩ := PySem.W.any_some hdct
  unfold PySem.W.kitOne
  split
  · rename_i e
    have := eq_of_beq e
    cases this
    rw [h0] at h
    exact h
  · unfold PySem.W.kitCls
    dsimp only
    rw [hc, ht]
    exact h
theorem kit_val {K : PySem.W.Frag} {D : Addr} {b : Bool} (h : PySem.W.subIn K (.ref D) (.type "ValueError") = some b) : PySem.W.kitOne K (.ref D) (.type "ValueError") = some b := by
  unfold PySem.W.kitOne
  split
  · rename_i e
    have := eq_of_beq e
    cases this
  · unfold PySem.W.kitCls
    dsimp only
    rw [if_pos (by decide +kernel)]
    exact h
/-! ### raise -/
def msRaise (x : Str) : MS := fun env h => .ex x none env h
section
variable {X : Cx} {G : Cf} {W : WX}
theorem ms_raise {x m : Str} {j : Nat} {p p2 pos pos2 : Pos} (hc : X.calm = true) (tk : Takes X W) (F : ExC1 X.K X.mg x (G.C x)) (hg : Gl X x := by rfl) (hdb : (x == ("__debug__" : Str)) = false := by decide) :
    PS X (.Raise (some (.Call (.Name x p) [.Constant (.str m) j p2] [] pos)) none pos2) (tS G W (msRaise x)) :=
  PS.imp (ps_raise hc tk (pmk_own PySem.F.excBase_ValueError F.q F.g F.k (raises_own F.b F.t) hg hdb)) fun D σ H ⟨et, env, h, hE, hH, hP⟩ =>
    hP et H σ _ none List.prefix_rfl (Ext.refl H) hH hE ⟨rfl, rfl⟩
end
/-! ### isinstance in a suite -/
def rIsET (K : PySem.W.Frag) (D a : Addr) : List V → Hp → VK → Prop := fun xs H Q => ∃ (tp : Addr) (cs : List V) (us : List Value) (b : Bool), xs = [.ref a, .ref tp] ∧ H tp = some (.tup cs) ∧ Paired ClsV cs us ∧ PySem.W.kitAny K (.ref D) us = some b ∧ Q (.bl b) H
theorem call_isET {X : Cx} {a D : Addr} {oe : Obj} {pn : List (Addr × Obj)} (C : ExcC X.K D) (hz : Zc (.ref D) none oe) (hf : ∃ vs, oe.data = .fields vs) : CallR (X.suite a ((a, oe) :: pn)) (.builtin "isinstance") (rIsET X.K D a) := by
  intro pins s σ H xs us Q I r h
  obtain ⟨tp, cs, ws, b, rfl, hT, k, e, q⟩ := h
  obtain ⟨u1, u2, rfl, r1, r2⟩ := vals2 r
  cases (show u2 = Value.ref tp from r2)
  cases (show u1 = Value.ref a from r1)
  obtain ⟨hget, _⟩ := I.pin (a, oe) (List.mem_append.mpr (.inl List.mem_cons_self))
  obtain ⟨vs, hv⟩ := hf
  have J : PySem.W.InstAt s.heap a oe D none := by
    obtain ⟨oc, od, oda, osl⟩ := oe
    obtain ⟨h1, h2⟩ := hz
    dsimp only at h1 h2 hv
    subst h1 h2 hv
    exact ⟨hget, rfl, rfl, trivial⟩
  obtain ⟨_, its, rv, o, h1, h2, n, h3⟩ := (show ObjOk _ _ H s.heap tp (.tup cs) from I.hok tp _ hT)
  have e3 := ClsV.all k rv
  subst e3
  obtain ⟨oc, od, dt, sl⟩ := o
  simp only at h2 h3
  subst h2 h3
  exact PySem.W.kia_tup (PySem.W.handS_kitx_exc C.hg C.hk C.hs C.hd C.ha C.hn C.ht C.hm) I.kIn J h1 e (fun z => nomatch z) fun tk => ⟨.bl b, H, I.kept (t' := tk) fun _ _ z => z, rfl, q⟩
theorem pe_no {X : Cx} {G : Cf} {W : WX} {e : Expr} {m : ME} (h0 : ∀ env h, m env h = .no) : PE X e (tE G W m) := ⟨fun _ _ _ _ _ _ ⟨et, env, h, _, _, hP⟩ => by
  rw [h0] at hP
  exact hP.elim⟩
def mIsE (t : CTab) (c : Str) (a i : Nat) (y : Str) : ME := fun env h => match env[i]? with
  | some (some (.exc a')) => if a' = a then (match t.get c y with | some b => .ok (.bl b) h | none => .no) else .no
  | _ => .no
def mIsET (t : CTab) (c : Str) (a i : Nat) (ys : List Str) : ME := fun env h => match env[i]? with
  | some (some (.exc a')) => if a' = a then (match allM' (t.get c) ys with | some bs => .ok (.bl (bs.any id)) h | none => .no) else .no
  | _ => .no
where allM' (f : Str → Option Bool) : List Str → Option (List Bool)
  | [] => some []
  | y :: ys => match f y, allM' f ys with
    | some b, some bs => some (b :: bs)
    | _, _ => none
/-- the classes that a tuple names -/
inductive CNs (X : Cx) (cl : Str → Addr) : List Str → List Expr → Prop
  | nil : CNs X cl [] []
  | own {y : Str} {ys : List Str} {es : List Expr} {p : Pos} (hg : Gl X y) (hm : X.mg y = some (.ref (cl y))) (hn : y ≠ "ValueError") (hd : (y == ("__debug__" : Str)) = false) (h : CNs X cl ys es) : CNs X cl (y :: ys) (.Name y p :: es)
  | val {ys : List Str} {es : List Expr} {p : Pos} (hg : Gl X "ValueError") (hm : X.mg "ValueError" = none) (h : CNs X cl ys es) : CNs X cl ("ValueError" :: ys) (.Name "ValueError" p :: es)
section
variable {X : Cx} {cl : Str → Addr}
theorem clV_own {y : Str} (hn : y ≠ "ValueError") : clV cl y = .ref (cl y) := by unfold clV; rw [if_neg hn]
theorem clU_own {y : Str} (hn : y ≠ "ValueError") : clU cl y = .ref (cl y) := by unfold clU; rw [if_neg hn]
theorem clV_val : clV cl "ValueError" = .ty "ValueError" := if_pos rfl
theorem clU_val : clU cl "ValueError" = .type "ValueError" := if_pos rfl
theorem clV_U (y : Str) : ClsV (clV cl y) (clU cl y) := by
  unfold clV clU
  split
  · exact .ty _
  · exact .own _
theorem CNs.pa : ∀ {ys : List Str} {es : List Expr}, CNs X cl ys es → PA X es (fun _ H Q => Q (ys.map (clV cl)) H)
  | [], _, .nil => pa_nil
  | _ :: _, _, .own (y := y) hg hm hn hd h => ⟨fun pos pins s σ H Q I q => (pa_cons (pe_glob (v := .ref (cl y)) hg hm rfl hd) h.pa rfl).run pos pins s σ H Q I (by rw [List.map_cons, clV_own hn] at q; exact q)⟩
  | _ :: _, _, .val hg hm h => ⟨fun pos pins s σ H Q I q => (pa_cons (pe_bltn (v := .ty "ValueError") hg hm (by decide +kernel : bootBuiltins "ValueError" = some (.type "ValueError")) rfl) h.pa rfl).run pos pins s σ H Q I (by rw [List.map_cons, clV_val] at q; exact q)⟩
theorem CNs.len : ∀ {ys : List Str} {es : List Expr}, CNs X cl ys es → es.length = ys.length
  | [], _, .nil => rfl
  | _ :: _, _, .own _ _ _ _ h => by simp [h.len]
  | _ :: _, _, .val _ _ h => by simp [h.len]
theorem paired_cls : ∀ ys : List Str, Paired ClsV (ys.map (clV cl)) (ys.map (clU cl))
  | [] => .nil
  | y :: ys => .cons (clV_U y) (paired_cls ys)
theorem kitAny_of {K : PySem.W.Frag} {t : CTab} {c : Str} (F : ExI K cl t) : ∀ {ys : List Str} {bs : List Bool}, mIsET.allM' (t.get c) ys = some bs → PySem.W.kitAny K (.ref (cl c)) (ys.map (clU cl)) = some (bs.any id)
  | [], bs, e => by
    simp only [mIsET.allM', Option.some.injEq] at e
    subst e
    rfl
  | y :: ys, bs, e => by
    unfold mIsET.allM' at e
    split at e
    · rename_i b bs' e1 e2
      cases e
      rw [List.map_cons]
      unfold PySem.W.kitAny
      rw [(F.get e1).1]
      cases b with
      | true => simp
      | false =>
        dsimp only
        rw [kitAny_of F e2]
        simp
    · cases e
end
section
variable {X : Cx} {G : Cf} {W : WX} {a : Addr} {oe : Obj} {pn : List (Addr × Obj)} {p p1 p2 pos : Pos}
theorem me_isE {t : CTab} {c y n : Str} (i : Nat) (hz : Zc (.ref (G.C c)) none oe) (hf : ∃ vs, oe.data = .fields vs) (F : ExI X.K G.C t) (hm : X.mg "isinstance" = none) (hy : CNs (X.suite a ((a, oe) :: pn)) G.C [y] [.Name y p2])
    (hN : X.N[i]? = some n := by rfl) (hv : Vis X.env.scope n := by first | exact Or.inl rfl | exact Or.inr (Or.inl rfl) | exact Or.inr (Or.inr rfl)) (hg : Gl X "isinstance" := by rfl) (hd : (n == ("__debug__" : Str)) = false := by decide) (hcd : (n == ("__classdict__" : Str)) = false := by decide) (hb : bootBuiltins "isinstance" = some (.builtin "isinstance") := by decide +kernel)
    (hs1 : starEach [.Name n p1, .Name y p2] X.env = (false, eval (.Name n p1) X.env) :: starEach [.Name y p2] X.env := by rfl) (hpl : (backTo pos (starEach [.Name y p2] X.env)).any (·.1) = false := by rfl) :
    PE (X.suite a ((a, oe) :: pn)) (.Call (.Name "isinstance" p) [.Name n p1, .Name y p2] [] pos) (tE G W (mIsE t c a i y)) := by
  cases hg0 : t.get c y with
  | none =>
    refine pe_no fun env h => ?_
    unfold mIsE
    split
    · split
      · rw [hg0]
      · rfl
    · rfl
  | some b0 =>
  have C := (F.get hg0).2
  exact PE.imp (pe_callB (X := X.suite a ((a, oe) :: pn)) (call_isE C hz hf) hg hm hb (pa_cons (pe_var (X := X.suite a ((a, oe) :: pn)) hN hv hd hcd) hy.pa hs1) (by decide) (by decide) hs1 hpl) fun σ H Q ⟨et, env, h, hE, hH, hP⟩ => by
    unfold mIsE at hP
    split at hP
    · rename_i a' ha
      obtain ⟨v, e1, r⟩ := hE.2 i _ ha
      have ev : v = .ref a' := by simpa [Den] using r
      subst ev
      split at hP
      · rename_i ea
        subst ea
        split at hP
        · rename_i b hb
          exact ⟨_, e1, clV G.C y, clU G.C y, b, rfl, fun u ru => ClsV.eq (clV_U y) ru, (F.get hb).1, hP.here hH _ (by simp)⟩
        · exact hP.elim
      · exact hP.elim
    · exact hP.elim
theorem me_isET {t : CTab} {c n : Str} {ys : List Str} {es : List Expr} {k : Nat} (i : Nat) (hz : Zc (.ref (G.C c)) none oe) (hf : ∃ vs, oe.data = .fields vs) (F : ExI X.K G.C t) (hm : X.mg "isinstance" = none) (hy : CNs (X.suite a ((a, oe) :: pn)) G.C ys es)
    (hN : X.N[i]? = some n := by rfl) (hv : Vis X.env.scope n := by first | exact Or.inl rfl | exact Or.inr (Or.inl rfl) | exact Or.inr (Or.inr rfl)) (hl : ys.length ≤ 1000 := by decide) (hl0 : ys.length ≠ 0 := by decide) (hg : Gl X "isinstance" := by rfl) (hd : (n == ("__debug__" : Str)) = false := by decide) (hcd : (n == ("__classdict__" : Str)) = false := by decide) (hb : bootBuiltins "isinstance" = some (.builtin "isinstance") := by decide +kernel)
    (hs1 : starEach [.Name n p1, .Tuple es k p2] X.env = (false, eval (.Name n p1) X.env) :: starEach [.Tuple es k p2] X.env := by rfl) (hs2 : starEach [.Tuple es k p2] X.env = (false, eval (.Tuple es k p2) X.env) :: starEach [] X.env := by rfl) (hpl : (backTo pos (starEach [.Tuple es k p2] X.env)).any (·.1) = false := by rfl) :
    PE (X.suite a ((a, oe) :: pn)) (.Call (.Name "isinstance" p) [.Name n p1, .Tuple es k p2] [] pos) (tE G W (mIsET t c a i ys)) := by
  cases hg0 : mIsET.allM' (t.get c) ys with
  | none =>
    refine pe_no fun env h => ?_
    unfold mIsET
    split
    · split
      · rw [hg0]
      · rfl
    · rfl
  | some bs0 =>
  rcases Nat.eq_zero_or_pos ys.length with h0 | h0
  · exact absurd h0 hl0
  have C : ExcC X.K (G.C c) := by
    cases ys with
    | nil => exact absurd rfl hl0
    | cons y ys =>
      unfold mIsET.allM' at hg0
      split at hg0
      · rename_i b bs e1 e2
        exact (F.get e1).2
      · cases hg0
  exact PE.imp (pe_callB (X := X.suite a ((a, oe) :: pn)) (call_isET C hz hf) hg hm hb (pa_cons (pe_var (X := X.suite a ((a, oe) :: pn)) hN hv hd hcd) (pa_cons (pe_tup hy.pa) pa_nil hs2) hs1) (by decide) (by decide) hs1 hpl) fun σ H Q ⟨et, env, h, hE, hH, hP⟩ => by
    unfold mIsET at hP
    split at hP
    · rename_i a' ha
      obtain ⟨v, e1, r⟩ := hE.2 i _ ha
      have ev : v = .ref a' := by simpa [Den] using r
      subst ev
      split at hP
      · rename_i ea
        subst ea
        split at hP
        · rename_i bs hb
          refine ⟨_, e1, sz (by rw [List.length_map]; omega), fun tp htp => ?_⟩
          exact ⟨tp, _, _, _, rfl, upd_same, paired_cls ys, kitAny_of F hb, hP et (upd H tp (.tup _)) List.prefix_rfl (Ext.new htp) (hH.new htp) _ (by simp)⟩
        · exact hP.elim
      · exact hP.elim
    · exact hP.elim
end
/-! ### try -/
def RS.unset (i : Nat) : RS → RS
  | .nx e h => .nx (e.set i none) h
  | .bk e h => .bk (e.set i none) h
  | .ct e h => .ct (e.set i none) h
  | .rt d h => .rt d h
  | .ex _ _ _ _ => .no
  | .no => .no
def RS.calm : RS → RS
  | .ex _ _ _ _ => .no
  | r => r
open Classical in
/-- the same whatever the number is -/
noncomputable def anyA (F : Nat → RS) : RS := if e : ∃ r, ∀ a, F a = r then choose e else .no
theorem anyA_eq {F : Nat → RS} {r : RS} (e : ∀ a, F a = r) : anyA F = r := by
  have ex : ∃ r, ∀ a, F a = r := ⟨r, e⟩
  unfold anyA
  rw [dif_pos ex]
  exact ((Classical.choose_spec ex 0).symm.trans (e 0))
theorem anyA_or (F : Nat → RS) : (∀ a, F a = anyA F) ∨ anyA F = .no := by
  by_cases e : ∃ r, ∀ a, F a = r
  · unfold anyA
    rw [dif_pos e]
    exact .inl (Classical.choose_spec e)
  · unfold anyA
    rw [dif_neg e]
    exact .inr rfl
/-- try: body except y as (slot i): suite -/
noncomputable def msTryAs (t : CTab) (y : Str) (i : Nat) (body : MS) (suite : Str → Nat → MS) : MS := fun env h => match body env h with
  | .ex c none e h1 => match t.get c y with
    | some true => anyA fun a => RS.unset i (suite c a (e.set i (some (.exc a))) h1)
    | some false => .ex c none e h1
    | none => .no
  | .ex _ _ _ _ => .no
  | r => r
def msTry (t : CTab) (y : Str) (body : MS) (suite : Str → MS) : MS := fun env h => match body env h with
  | .ex c none e h1 => match t.get c y with
    | some true => RS.calm (suite c e h1)
    | some false => .ex c none e h1
    | none => .no
  | .ex _ _ _ _ => .no
  | r => r
theorem EnvR.unset {G : Cf} {et : List Addr} {H : Hp} {env : EV} {σ : L2.St} (x : EnvR G et H env σ) (i : Nat) (v : Option V) : EnvR G et H (env.set i none) (σ.set i v) := by
  refine ⟨by simp [x.1], fun j d q => ?_⟩
  by_cases hj : i = j
  · subst hj
    by_cases hl : i < env.length
    · rw [List.getElem?_set_self hl] at q
      cases q
    · rw [List.getElem?_eq_none (by simp; omega)] at q
      cases q
  · rw [List.getElem?_set_ne hj] at q
    obtain ⟨v, e1, r⟩ := x.2 j d q
    exact ⟨v, by rw [List.getElem?_set_ne hj]; exact e1, r⟩
section
variable {X : Cx} {G : Cf} {W : WX} {body suite : List Stmt} {b₀ : Stmt} {np pos pos' : Pos}
theorem ms_tryAs {t : CTab} {y n : Str} (i : Nat) {mb : MS} {ms : Str → Nat → MS} (hs : X.stack = X.env :: X.outer) (hf : X.env.frame = some X.env.locals) (hN : X.N.Nodup) (F : ExH X.K G.C t) (hm : X.mg y = some (.ref (G.C y))) (tk : Takes X W)
    (hb : ∀ (W : WX) (pn : List (Addr × Obj)) (xe : Value → Shared → Prop), Takes (X.tr pn xe) W → PassesOwn (model X.prog X.w) X.A X.env xe → PSs (X.tr pn xe) body (tS G W mb))
    (hsu : ∀ (c : Str) (a : Addr) (oe : Obj) (pn : List (Addr × Obj)), Zc (.ref (G.C c)) none oe → (∃ vs, oe.data = .fields vs) → PSs (X.suite a ((a, oe) :: pn)) (b₀ :: suite) (tS G W0 (ms c a)))
    (hi : X.N[i]? = some n := by rfl) (hln : X.env.kindOf n = some .local := by rfl) (hg : Gl X y := by rfl) (hn : y ≠ "ValueError" := by decide) (hd : (y == ("__debug__" : Str)) = false := by decide) :
    PS X (.Try body [.ExceptHandler (some (.Name y np)) (some n) (b₀ :: suite) pos'] [] [] pos) (tS G W (msTryAs t y i mb ms)) := by
  refine PS.imp (ps_try_as (i := i) (tb := fun W => tS G W mb) (ts := fun a cls d D σ H => ∃ c, cls = .ref (G.C c) ∧ d = none ∧ tS G W0 (ms c a) D σ H) (Wout := W) hs hf hN hi hln ⟨hg, hd, .inl hm⟩ tk hb
    (fun a oe cls d pn hz hf => ⟨fun pins s σ H D I ⟨c, h1, h2, r⟩ => by subst h1 h2; exact (hsu c a oe pn hz hf).run pins s σ H D I r⟩)) fun D σ H ⟨et, env, h, hE, hH, hP⟩ => ⟨et, env, h, hE, hH, ?_⟩
  unfold msTryAs at hP
  revert hP
  cases mb env h with
  | no => exact fun z => z
  | nx e h1 => exact fun z => z
  | rt e h1 => exact fun z => z
  | bk e h1 => exact fun z => z
  | ct e h1 => exact fun z => z
  | ex c d e h1 =>
    cases d with
    | some fs => exact fun z => z.elim
    | none =>
      intro hP et' H' σ' cls dd p ex hr hE' hx
      obtain ⟨rfl, hdd⟩ := hx
      have hdd : dd = none := hdd
      subst hdd
      dsimp only at hP
      cases ht : t.get c y with
      | none => rw [ht] at hP; exact hP.elim
      | some b =>
        rw [ht] at hP
        refine ⟨b, by have := F.get ht; rw [clU_own hn] at this; exact this, fun hb a _ => ?_, fun hb => ?_⟩
        · subst hb
          dsimp only at hP
          refine ⟨c, rfl, rfl, et', e.set i (some (.exc a)), h1, hE'.set i (by simp [Den]), hr, ?_⟩
          have q := PstS.weak p ex hP
          rcases anyA_or (fun a => RS.unset i (ms c a (e.set i (some (.exc a))) h1)) with z | z
          · rw [← z a] at q
            revert q
            cases ms c a (e.set i (some (.exc a))) h1 with
            | no => exact fun z => z
            | rt d h2 => exact fun z => z
            | ex _ _ _ _ => exact fun z => z.elim
            | nx e2 h2 => exact fun q et1 H1 σ1 p1 e1 r1 E1 => q et1 H1 _ p1 e1 r1 (E1.unset i none)
            | bk e2 h2 => exact fun q et1 H1 σ1 p1 e1 r1 E1 => q et1 H1 _ p1 e1 r1 (E1.unset i none)
            | ct e2 h2 => exact fun q et1 H1 σ1 p1 e1 r1 E1 => q et1 H1 _ p1 e1 r1 (E1.unset i none)
          · rw [z] at q
            exact q.elim
        · subst hb
          exact hP et' H' σ' _ none p ex hr hE' ⟨rfl, rfl⟩
theorem ms_try {t : CTab} {y : Str} {mb : MS} {ms : Str → MS} (hs : X.stack = X.env :: X.outer) (hf : X.env.frame = some X.env.locals) (F : ExH X.K G.C t) (hm : X.mg y = some (.ref (G.C y))) (tk : Takes X W)
    (hb : ∀ (W : WX) (pn : List (Addr × Obj)) (xe : Value → Shared → Prop), Takes (X.tr pn xe) W → PassesOwn (model X.prog X.w) X.A X.env xe → PSs (X.tr pn xe) body (tS G W mb))
    (hsu : ∀ (c : Str) (a : Addr) (oe : Obj) (pn : List (Addr × Obj)), Zc (.ref (G.C c)) none oe → (∃ vs, oe.data = .fields vs) → PSs (X.suite a ((a, oe) :: pn)) (b₀ :: suite) (tS G W0 (ms c)))
    (hg : Gl X y := by rfl) (hn : y ≠ "ValueError" := by decide) (hd : (y == ("__debug__" : Str)) = false := by decide) :
    PS X (.Try body [.ExceptHandler (some (.Name y np)) none (b₀ :: suite) pos'] [] [] pos) (tS G W (msTry t y mb ms)) := by
  refine PS.imp (ps_try_only (tb := fun W => tS G W mb) (ts := fun a cls d D σ H => ∃ c, cls = .ref (G.C c) ∧ d = none ∧ tS G W0 (ms c) D σ H) (Wout := W) hs hf ⟨hg, hd, .inl hm⟩ tk hb
    (fun a oe cls d pn hz hf => ⟨fun pins s σ H D I ⟨c, h1, h2, r⟩ => by subst h1 h2; exact (hsu c a oe pn hz hf).run pins s σ H D I r⟩)) fun D σ H ⟨et, env, h, hE, hH, hP⟩ => ⟨et, env, h, hE, hH, ?_⟩
  unfold msTry at hP
  revert hP
  cases mb env h with
  | no => exact fun z => z
  | nx e h1 => exact fun z => z
  | rt e h1 => exact fun z => z
  | bk e h1 => exact fun z => z
  | ct e h1 => exact fun z => z
  | ex c d e h1 =>
    cases d with
    | some fs => exact fun z => z.elim
    | none =>
      intro hP et' H' σ' cls dd p ex hr hE' hx
      obtain ⟨rfl, hdd⟩ := hx
      have hdd : dd = none := hdd
      subst hdd
      dsimp only at hP
      cases ht : t.get c y with
      | none => rw [ht] at hP; exact hP.elim
      | some b =>
        rw [ht] at hP
        refine ⟨b, by have := F.get ht; rw [clU_own hn] at this; exact this, fun hb a _ => ?_, fun hb => ?_⟩
        · subst hb
          dsimp only at hP
          refine ⟨c, rfl, rfl, et', e, h1, hE', hr, ?_⟩
          have q := PstS.weak p ex hP
          revert q
          cases ms c e h1 with
          | ex _ _ _ _ => exact fun z => z.elim
          | _ => exact fun z => z
        · subst hb
          exact hP et' H' σ' _ none p ex hr hE' ⟨rfl, rfl⟩
end
end NR

set_option Elab.async false
set_option linter.all false
set_option maxRecDepth 100000
/-! sorted, max, min of a list; pop, index; methods without arguments; one of two readings. -/
namespace NR
open PySem PySem.Spec PyProof.Rows L2
def relabelS (scope sc : Scope) : Scope :=
  { scope with names := scope.names.map fun (n, k) => if (k == .free && sc.kind == .function && sc.names.lookup n == some .cell) then (n, .cell) else (n, k) }
/-- a comprehension within another one -/
theorem blkOk_in {N : List Str} {outer sc scope : Scope} {env : PySem.Env} {own : List (Str × Nat)} (hs : env.scope = sc) (h : blkC N (relabelS outer sc) scope own = true) : BlkOk N (relabel outer env) scope own := by
  have e : relabel outer env = relabelS outer sc := by subst hs; rfl
  rw [e]
  exact blkOk_by h
/-- one of two readings of an expression -/
def mOrE (m1 m2 : ME) : ME := fun env h => match m1 env h with
  | .no => m2 env h
  | r => r
section
variable {X : Cx} {G : Cf} {W : WX} {e o : Expr} {m1 m2 mo : ME} {name : Str} {apos cpos : Pos} {T id : String} {r : V → List V → Hp → VK → Prop} {f : D → List D → IH → R D}
theorem me_orE (h1 : PE X e (tE G W m1)) (h2 : PE X e (tE G W m2)) : PE X e (tE G W (mOrE m1 m2)) := ⟨fun pins s σ H Q I ⟨et, env, h, hE, hH, hP⟩ => by
  unfold mOrE at hP
  cases e1 : m1 env h with
  | no =>
    rw [e1] at hP
    exact h2.run pins s σ H Q I ⟨et, env, h, hE, hH, hP⟩
  | ok d h' => rw [e1] at hP; exact h1.run pins s σ H Q I ⟨et, env, h, hE, hH, by rw [e1]; exact hP⟩
  | ex c d h' => rw [e1] at hP; exact h1.run pins s σ H Q I ⟨et, env, h, hE, hH, by rw [e1]; exact hP⟩⟩
/-- a method without arguments -/
def mMeth0 (T : String) (f : D → List D → IH → R D) (mo : ME) : ME := fun env h => (mo env h).bind fun x h1 => if tyD T h1 x = true then f x [] h1 else .no
theorem me_meth0 (hK : X.K = G.K) (pa : PlainAttrs T) (slot : Slot T name id) (hty : typeOf (.builtin id) = pure (.type "method_descriptor")) (hm : MtR X id r) (hs : MethS G r f) (ho : PE X o (tE G W mo))
    (hbase : attributeBase o name X.env (eval o X.env) = eval o X.env := by rfl) (hline : (apos.endLine == cpos.line) = true := by rfl) :
    PE X (.Call (.Attribute o name apos) [] [] cpos) (tE G W (mMeth0 T f mo)) := PE.imp (pe_bm0 pa slot hty hm ho hbase hline) fun σ H Q ⟨et, env, h, hE, hH, hP⟩ => by
  refine ⟨et, env, h, hE, hH, (Pst.of_bind hP).imp fun et1 H1 h1 x p e hr q v hv => ?_⟩
  split at q
  · rename_i ht
    rw [hK]
    exact ⟨tyD_ok hr ht hv, hs et1 H1 h1 x v [] [] _ Q hv (by simp) hr q⟩
  · exact q.elim
end
def isrt (ns : List Int) : List Int := ns.mergeSort (fun a b => decide (a ≤ b))
theorem isrt_perm (ns : List Int) : (isrt ns).Perm ns := List.mergeSort_perm _ _
theorem isrt_sorted (ns : List Int) : (isrt ns).Pairwise (· ≤ ·) := by
  have := List.pairwise_mergeSort (le := fun a b : Int => decide (a ≤ b)) (fun a b c h1 h2 => by simp at *; omega) (fun a b => by simp; omega) ns
  exact this.imp (by simp)
theorem isrt_eq {ns ms : List Int} (p : ms.Perm ns) (s : ms.Pairwise (· ≤ ·)) : ms = isrt ns :=
  List.Perm.eq_of_pairwise (fun _ _ _ _ a b => Int.le_antisymm a b) s (isrt_sorted ns) (p.trans (isrt_perm ns).symm)
def bSorted : List D → IH → R D
  | [x], h => match (lstOf h x).bind (allM D.int?) with
    | some ns => .ok (.ref h.length) (h ++ [.lst ((isrt ns).map D.int)])
    | none => .no
  | _, _ => .no
def imax : List Int → Int
  | [] => 0
  | x :: xs => xs.foldl (fun a b => if b > a then b else a) x
def imin : List Int → Int
  | [] => 0
  | x :: xs => xs.foldl (fun a b => if b < a then b else a) x
theorem imax_go : ∀ (xs : List Int) (x : Int), xs.foldl (fun a b => if b > a then b else a) x ∈ x :: xs ∧ ∀ y ∈ x :: xs, y ≤ xs.foldl (fun a b => if b > a then b else a) x
  | [], x => by simp
  | z :: xs, x => by
    obtain ⟨h1, h2⟩ := imax_go xs (if z > x then z else x)
    rw [List.foldl_cons]
    generalize xs.foldl (fun a b => if b > a then b else a) (if z > x then z else x) = F at *
    refine ⟨?_, fun y hy => ?_⟩
    · rcases List.mem_cons.mp h1 with h | h
      · rw [h]; split <;> simp
      · exact List.mem_cons_of_mem _ (List.mem_cons_of_mem _ h)
    · have h3 := h2 _ List.mem_cons_self
      rcases List.mem_cons.mp hy with rfl | hy
      · split at h3 <;> omega
      · rcases List.mem_cons.mp hy with rfl | hy
        · split at h3 <;> omega
        · exact h2 y (List.mem_cons_of_mem _ hy)
theorem imin_go : ∀ (xs : List Int) (x : Int), xs.foldl (fun a b => if b < a then b else a) x ∈ x :: xs ∧ ∀ y ∈ x :: xs, xs.foldl (fun a b => if b < a then b else a) x ≤ y
  | [], x => by simp
  | z :: xs, x => by
    obtain ⟨h1, h2⟩ := imin_go xs (if z < x then z else x)
    rw [List.foldl_cons]
    generalize xs.foldl (fun a b => if b < a then b else a) (if z < x then z else x) = F at *
    refine ⟨?_, fun y hy => ?_⟩
    · rcases List.mem_cons.mp h1 with h | h
      · rw [h]; split <;> simp
      · exact List.mem_cons_of_mem _ (List.mem_cons_of_mem _ h)
    · have h3 := h2 _ List.mem_cons_self
      rcases List.mem_cons.mp hy with rfl | hy
      · split at h3 <;> omega
      · rcases List.mem_cons.mp hy with rfl | hy
        · split at h3 <;> omega
        · exact h2 y (List.mem_cons_of_mem _ hy)
theorem imax_mem {ns : List Int} (h : 0 < ns.length) : imax ns ∈ ns := by
  cases ns with
  | nil => simp at h
  | cons x xs => exact (imax_go xs x).1
theorem imax_le {ns : List Int} {y : Int} (h : y ∈ ns) : y ≤ imax ns := by
  cases ns with
  | nil => cases h
  | cons x xs => exact (imax_go xs x).2 y h
theorem imin_mem {ns : List Int} (h : 0 < ns.length) : imin ns ∈ ns := by
  cases ns with
  | nil => simp at h
  | cons x xs => exact (imin_go xs x).1
theorem imin_le {ns : List Int} {y : Int} (h : y ∈ ns) : imin ns ≤ y := by
  cases ns with
  | nil => cases h
  | cons x xs => exact (imin_go xs x).2 y h
def bMax1 : List D → IH → R D
  | [x], h => match (lstOf h x).bind (allM D.int?) with
    | some ns => if 0 < ns.length then .ok (.int (imax ns)) h else .no
    | none => .no
  | _, _ => .no
def bMin1 : List D → IH → R D
  | [x], h => match (lstOf h x).bind (allM D.int?) with
    | some ns => if 0 < ns.length then .ok (.int (imin ns)) h else .no
    | none => .no
  | _, _ => .no
def fPop0 : D → List D → IH → R D
  | .ref n, [], h => match h[n]? with
    | some (.lst xs) => match xs[xs.length - 1]? with
      | some y => .ok y (h.set n (.lst xs.dropLast))
      | none => .no
    | _ => .no
  | _, _, _ => .no
def fPopAt : D → List D → IH → R D
  | .ref n, [.int i], h => match h[n]? with
    | some (.lst xs) => match ixN xs.length i with
      | some k => match xs[k]? with
        | some y => if -(2 ^ 63) ≤ i ∧ i < 2 ^ 63 then .ok y (h.set n (.lst (xs.eraseIdx k))) else .no
        | none => .no
      | none => .no
    | _ => .no
  | _, _, _ => .no
def fClear : D → List D → IH → R D
  | .ref n, [], h => match h[n]? with
    | some (.lst xs) => .ok .non (h.set n (.lst []))
    | _ => .no
  | _, _, _ => .no
/-- the first place in a list of ints, of texts -/
def fIndexL : D → List D → IH → R D
  | x, [.int y], h => match (lstOf h x).bind (allM D.int?) with
    | some ns => if y ∈ ns then .ok (.int (ns.idxOf y : Nat)) h else .no
    | none => .no
  | x, [.str y], h => match (lstOf h x).bind (allM D.str?) with
    | some ns => if y ∈ ns then .ok (.int (ns.idxOf y : Nat)) h else .no
    | none => .no
  | _, _, _ => .no
section
variable {G : Cf}
theorem ints_den {et : List Addr} {H : Hp} {h : IH} {x : D} {v : V} {ns : List Int} (R : HRel G et h H) (e : (lstOf h x).bind (allM D.int?) = some ns) (r : Den G et H x v) : ∃ a, v = .ref a ∧ SqL G.K H a (ns.map V.int) := by
  simp only [Option.bind_eq_some_iff] at e
  obtain ⟨xs, e1, e2⟩ := e
  obtain ⟨a, vs, rfl, h1, h2⟩ := lst_ok R e1 r
  rw [allM_ints e2] at h2
  rw [h2.ints] at h1
  exact ⟨a, rfl, h1⟩
theorem strs_den {et : List Addr} {H : Hp} {h : IH} {x : D} {v : V} {ns : List (List Nat)} (R : HRel G et h H) (e : (lstOf h x).bind (allM D.str?) = some ns) (r : Den G et H x v) : ∃ a, v = .ref a ∧ SqL G.K H a ((ns.map strV).map V.str) := by
  simp only [Option.bind_eq_some_iff] at e
  obtain ⟨xs, e1, e2⟩ := e
  obtain ⟨a, vs, rfl, h1, h2⟩ := lst_ok R e1 r
  rw [allM_strs e2] at h2
  rw [h2.strs] at h1
  exact ⟨a, rfl, h1⟩
theorem bSorted_ok : CallS G (rSortedI G.K) bSorted := by
  intro et H h xs vs W Q rv R p
  unfold bSorted at p
  split at p
  · split at p
    · rename_i x ns e
      obtain ⟨v, rfl, r⟩ := list1 rv
      obtain ⟨a, rfl, hs⟩ := ints_den R e r
      refine ⟨a, ns, rfl, hs, fun ns' q pm so hq => ?_⟩
      rw [isrt_eq pm so]
      exact p.newL R DenL.ofInts q hq
    · exact p.elim
  · exact p.elim
theorem bMax1_ok : CallS G (rMax G.K) bMax1 := by
  intro et H h xs vs W Q rv R p
  unfold bMax1 at p
  split at p
  · split at p
    · rename_i x ns e
      split at p
      · rename_i c
        obtain ⟨v, rfl, r⟩ := list1 rv
        obtain ⟨a, rfl, hs⟩ := ints_den R e r
        refine ⟨a, ns, rfl, hs, c, fun m hm hle => ?_⟩
        have : m = imax ns := Int.le_antisymm (imax_le hm) (hle _ (imax_mem c))
        subst this
        exact p.here R _ (by simp)
      · exact p.elim
    · exact p.elim
  · exact p.elim
theorem bMin1_ok : CallS G (rMin G.K) bMin1 := by
  intro et H h xs vs W Q rv R p
  unfold bMin1 at p
  split at p
  · split at p
    · rename_i x ns e
      split at p
      · rename_i c
        obtain ⟨v, rfl, r⟩ := list1 rv
        obtain ⟨a, rfl, hs⟩ := ints_den R e r
        refine ⟨a, ns, rfl, hs, c, fun m hm hle => ?_⟩
        have : m = imin ns := Int.le_antisymm (hle _ (imin_mem c)) (imin_le hm)
        subst this
        exact p.here R _ (by simp)
      · exact p.elim
    · exact p.elim
  · exact p.elim
theorem DenL.dropLast {et : List Addr} {H : Hp} {ds : List D} {vs : List V} (h : DenL G et H ds vs) : DenL G et H ds.dropLast vs.dropLast := by
  rw [List.dropLast_eq_take, List.dropLast_eq_take, h.len]
  exact h.take _
theorem DenL.eraseIdx {et : List Addr} {H : Hp} {ds : List D} {vs : List V} (h : DenL G et H ds vs) (k : Nat) : DenL G et H (ds.eraseIdx k) (vs.eraseIdx k) := by
  rw [List.eraseIdx_eq_take_drop_succ, List.eraseIdx_eq_take_drop_succ]
  exact (h.take _).app (h.drop _)
theorem fPop0_ok : MethS G rPop fPop0 := by
  intro et H h x v xs vs W Q rx rv R p
  unfold fPop0 at p
  split at p
  · split at p
    · rename_i n _ ys hx
      split at p
      · rename_i y hy
        obtain ⟨a, us, h2, rfl, h3, h4⟩ := den_list R hx rx
        obtain ⟨w, e1, r1⟩ := h4.get hy
        refine ⟨a, us, w, rfl, by simpa using rv, h3, by rw [h4.len]; exact e1, ?_⟩
        have ex : Ext H (upd H a (.lst us.dropLast)) := Ext.mut h3 True.intro
        exact p et _ List.prefix_rfl ex (R.set hx h2 rfl h3 True.intro ⟨_, upd_same, (h4.dropLast).mono List.prefix_rfl ex⟩) _ (r1.mono List.prefix_rfl ex)
      · exact p.elim
    · exact p.elim
  · exact p.elim
theorem fPopAt_ok : MethS G rPopAt fPopAt := by
  intro et H h x v xs vs W Q rx rv R p
  unfold fPopAt at p
  split at p
  · split at p
    · rename_i n i _ ys hx
      split at p
      · rename_i k hk
        split at p
        · rename_i y hy
          split at p
          · rename_i c
            obtain ⟨w, rfl, h1⟩ := list1 rv
            obtain ⟨a, us, h2, rfl, h3, h4⟩ := den_list R hx rx
            obtain ⟨w2, e1, r1⟩ := h4.get hy
            refine ⟨a, us, i, k, w2, rfl, by rw [den_int.mp h1], h3, c.1, c.2, by rw [h4.len]; exact (ixN_seq hk).1, e1, ?_⟩
            have ex : Ext H (upd H a (.lst (us.eraseIdx k))) := Ext.mut h3 True.intro
            exact p et _ List.prefix_rfl ex (R.set hx h2 rfl h3 True.intro ⟨_, upd_same, (h4.eraseIdx k).mono List.prefix_rfl ex⟩) _ (r1.mono List.prefix_rfl ex)
          · exact p.elim
        · exact p.elim
      · exact p.elim
    · exact p.elim
  · exact p.elim
theorem idx_first {A : Type} [BEq A] [LawfulBEq A] : ∀ {ns : List A} {y : A}, y ∈ ns → ns[ns.idxOf y]? = some y ∧ ∀ m z, m < ns.idxOf y → ns[m]? = some z → (z == y) = false
  | [], _, h => by cases h
  | n :: ns, y, h => by
    by_cases e : n = y
    · subst e
      rw [List.idxOf_cons_self]
      exact ⟨rfl, fun m z hm => absurd hm (Nat.not_lt_zero m)⟩
    · have e' : (n == y) = false := beq_eq_false_iff_ne.mpr e
      rw [List.idxOf_cons, e']
      have hm : y ∈ ns := by
        rcases List.mem_cons.mp h with h | h
        · exact absurd h.symm e
        · exact h
      obtain ⟨h1, h2⟩ := idx_first hm
      refine ⟨by simpa using h1, fun m z hm hz => ?_⟩
      cases m with
      | zero => simp at hz; subst hz; exact e'
      | succ m => exact h2 m z (by simpa using hm) (by simpa using hz)
theorem fIndexL_ok : MethS G (rIndex G.K) fIndexL := by
  intro et H h x v xs vs W Q rx rv R p
  unfold fIndexL at p
  split at p
  · rename_i y
    split at p
    · rename_i ns e
      split at p
      · rename_i c
        obtain ⟨w, rfl, h1⟩ := list1 rv
        obtain ⟨a, rfl, hs⟩ := ints_den R e rx
        obtain ⟨q1, q2⟩ := idx_first c
        refine ⟨a, _, w, ns.idxOf y, .int y, rfl, rfl, hs, by rw [den_int.mp h1]; rfl, ?_, by rw [List.getElem?_map, q1]; rfl, by rw [den_int.mp h1]; simp [eqV], fun m z' hm hz => ?_, p.here R _ (by simp)⟩
        · simp [flatV]
        · rw [List.getElem?_map] at hz
          cases hn : ns[m]? with
          | none => rw [hn] at hz; cases hz
          | some z0 =>
            rw [hn] at hz
            cases hz
            rw [den_int.mp h1]
            exact q2 m z0 hm hn
      · exact p.elim
    · exact p.elim
  · rename_i y
    split at p
    · rename_i ns e
      split at p
      · rename_i c
        obtain ⟨w, rfl, h1⟩ := list1 rv
        obtain ⟨a, rfl, hs⟩ := strs_den R e rx
        obtain ⟨q1, q2⟩ := idx_first c
        refine ⟨a, _, w, ns.idxOf y, .str (strV y), rfl, rfl, hs, by rw [den_str.mp h1]; rfl, ?_, by rw [List.getElem?_map, List.getElem?_map, q1]; rfl, by rw [den_str.mp h1]; simp [eqV], fun m z' hm hz => ?_, p.here R _ (by simp)⟩
        · simp [flatV]
        · rw [List.getElem?_map, List.getElem?_map] at hz
          cases hn : ns[m]? with
          | none => rw [hn] at hz; cases hz
          | some z0 =>
            rw [hn] at hz
            cases hz
            rw [den_str.mp h1]
            have := q2 m z0 hm hn
            exact beq_eq_false_iff_ne.mpr fun z => (beq_eq_false_iff_ne.mp this) (strV_inj z)
      · exact p.elim
    · exact p.elim
  · exact p.elim
end
end NR

set_option Elab.async false
set_option linter.all false
set_option maxRecDepth 100000
/-! zip and enumerate over whatever is not written: lists, tuples, texts, mixed. -/
namespace NR
open PySem PySem.Spec PyProof.Rows L2
open Sem (wp)

inductive Kd where
  | ls (a : Addr)
  | tp (a : Addr)
  | tx (x : Str)
def Kd.v : Kd → V
  | .ls a => .ref a
  | .tp a => .ref a
  | .tx x => .str x
def Kd.At (K : PySem.W.Frag) (H : Hp) : Kd → List V → Prop
  | .ls a, xs => SqL K H a xs
  | .tp a, xs => SqT K H a xs
  | .tx x, xs => xs = x.cps.toList.map fun c => V.str ⟨#[c]⟩
def Kd.It (h : Heap) (it : Addr) : Kd → Nat → Prop
  | .ls a, i => h.IsListIter it a i
  | .tp a, i => h.IsTupleIter it a i
  | .tx x, i => ∃ t, h.IsStrIter it (strIterType x) x t i
def Kd.ad : Kd → List Addr
  | .ls a => [a]
  | .tp a => [a]
  | .tx _ => []
theorem Kd.It.keep {h h' : Heap} {it : Addr} {k : Kd} {i : Nat} (q : k.It h it i) (e : ∀ o, h.get? it = some o → h'.get? it = some o) : k.It h' it i := by
  cases k with
  | ls a => exact Heap.IsListIter.at q e
  | tp a => exact Heap.IsTupleIter.at q e
  | tx x => obtain ⟨t, o, ho, r⟩ := q; exact ⟨t, o, e o ho, r⟩
theorem Kd.It.obj {h : Heap} {it : Addr} {k : Kd} {i : Nat} (q : k.It h it i) : ∃ o, h.get? it = some o ∧ ∀ v, o.data ≠ .cell v := by
  cases k with
  | ls a => obtain ⟨o, e, c, d⟩ := q; exact ⟨o, e, fun v z => by rw [d] at z; cases z⟩
  | tp a => obtain ⟨o, e, c, d⟩ := q; exact ⟨o, e, fun v z => by rw [d] at z; cases z⟩
  | tx x => obtain ⟨t, o, e, c, d⟩ := q; exact ⟨o, e, fun v z => by rw [d] at z; cases z⟩
section
variable {X : Cx} {pins : List (Addr × Obj)} {σ : L2.St} {H : Hp} {s : Shared}
theorem Kd.At.inj (I : Inv X pins σ H s) {k : Kd} {xs ys : List V} (a : k.At X.K H xs) (b : k.At X.K H ys) : xs = ys := by
  cases k with
  | ls d => exact I.list_inj a b
  | tp d => exact I.tuple_inj a b
  | tx x => exact a.trans b.symm
theorem vals_draw {xs : List V} {its : List Value} (r : Vals xs its) {j : Nat} {u : Value} (e : its.toArray[j]? = some u) : ∃ x, xs[j]? = some x ∧ RelV x u := by
  have hl := r.length
  have e' : its[j]? = some u := by simpa using e
  have hj : j < its.length := (List.getElem?_eq_some_iff.mp e').1
  have hx : xs[j]? = some (xs[j]'(by omega)) := List.getElem?_eq_getElem (by omega)
  obtain ⟨u', hu, ru⟩ := r.get hx
  rw [e'] at hu
  cases hu
  exact ⟨_, hx, ru⟩
theorem Kd.draws (I : Inv X pins σ H s) (k : Kd) {xs : List V} {it : Addr} {i : Nat} (ha : k.At X.K H xs) (hi : k.It s.heap it i) (hn : it ∉ k.ad) {A : Around} (hh : A.handled = none) :
    ∃ (P : Nat → Value → Prop) (St : Nat → Heap → Prop), Draws X.prog X.w A it (it :: k.ad) xs.length P St ∧ St i s.heap ∧ (∀ j u, P j u → ∃ x, xs[j]? = some x ∧ RelV x u) ∧ ∀ j h, St j h → k.It h it j := by
  cases k with
  | ls a =>
    obtain ⟨its, rv, p, hz⟩ := I.list ha
    have e : its.toArray.size = xs.length := by have := rv.length; simp; omega
    have D := Draws.list (prog := X.prog) (w := X.w) (A := A) hh it a (fun z => hn (by simp [Kd.ad, z])) its.toArray
    rw [e] at D
    exact ⟨_, _, D, ⟨hi, p.isList⟩, fun j u q => vals_draw rv q, fun j h q => q.1⟩
  | tp a =>
    obtain ⟨its, rv, p, hz⟩ := I.tuple ha
    have e : its.toArray.size = xs.length := by have := rv.length; simp; omega
    have D := Draws.tuple (prog := X.prog) (w := X.w) (A := A) hh it a (fun z => hn (by simp [Kd.ad, z])) its.toArray
    rw [e] at D
    exact ⟨_, _, D, ⟨hi, p⟩, fun j u q => vals_draw rv q, fun j h q => q.1⟩
  | tx x =>
    obtain ⟨t, hi⟩ := hi
    have e : x.cps.size = xs.length := by rw [show xs = _ from ha]; simp
    have D := Draws.text (prog := X.prog) (w := X.w) (A := A) hh it x t
    rw [e] at D
    refine ⟨_, _, D, hi, fun j u ⟨c, t', hc, q⟩ => ⟨.str ⟨#[c]⟩, ?_, t', q⟩, fun j h q => ⟨t, q⟩⟩
    rw [show xs = _ from ha]
    simp [hc]
theorem Kd.begins (I : Inv X pins σ H s) (k : Kd) {xs : List V} (ha : k.At X.K H xs) {u : Value} (r : RelV k.v u) :
    ∃ (o : Obj) (B : Heap → Prop), Begins u o B ∧ B s.heap ∧ (∀ (h : Heap) (it : Addr), h.get? it = some o → k.It h it 0) ∧ ∀ b ∈ k.ad, b < s.heap.objs.size := by
  cases k with
  | ls a =>
    obtain ⟨its, rv, p, hz⟩ := I.list ha
    obtain rfl : u = Value.ref a := r
    exact ⟨_, _, begins_list a its.toArray, p.isList, fun h it e => ⟨_, e, rfl, rfl⟩, fun b hb => by
      obtain rfl : b = a := by simpa [Kd.ad] using hb
      exact p.lt⟩
  | tp a =>
    obtain ⟨its, rv, p, hz⟩ := I.tuple ha
    obtain rfl : u = Value.ref a := r
    refine ⟨_, _, begins_tuple a its.toArray, p, fun h it e => ⟨_, e, rfl, rfl⟩, fun b hb => ?_⟩
    obtain rfl : b = a := by simpa [Kd.ad] using hb
    obtain ⟨o, e, _⟩ := p
    exact Heap.lt_size e
  | tx x =>
    obtain ⟨t, rfl⟩ := r
    exact ⟨_, _, begins_text x t, trivial, fun h it e => ⟨t, _, e, rfl, rfl⟩, fun b hb => by simp [Kd.ad] at hb⟩
end

/-- two walked side by side, n of them -/
def Itq (K : PySem.W.Frag) (k1 k2 : Kd) (n : Nat) : It :=
  ⟨fun i H => i < n ∧ ∃ xs ys, k1.At K H xs ∧ k2.At K H ys ∧ min xs.length ys.length = n,
    fun i H v H' => ∃ T x y, v = .ref T ∧ H T = none ∧ H' = upd H T (.tup [x, y]) ∧ (∀ xs, k1.At K H xs → xs[i]? = some x) ∧ ∀ ys, k2.At K H ys → ys[i]? = some y,
    fun i H => n ≤ i ∧ ∃ xs ys, k1.At K H xs ∧ k2.At K H ys ∧ min xs.length ys.length = n⟩
def Ieq (K : PySem.W.Frag) (k : Kd) (c : Int) (n : Nat) : It :=
  ⟨fun i H => i < n ∧ ∃ xs, k.At K H xs ∧ xs.length = n,
    fun i H v H' => ∃ T x, v = .ref T ∧ H T = none ∧ H' = upd H T (.tup [.int (c + (i : Nat)), x]) ∧ ∀ xs, k.At K H xs → xs[i]? = some x,
    fun i H => n ≤ i ∧ ∃ xs, k.At K H xs ∧ xs.length = n⟩
def Zst (k1 k2 : Kd) (n N : Nat) (i : Nat) (h : Heap) : Prop :=
  i ≤ n ∧ IsZip h (N + 4) (N + 2) (N + 3) .none ∧ IsTupOf2 h (N + 2) (.ref N) (.ref (N + 1)) ∧ (∃ a b, IsTupOf2 h (N + 3) a b) ∧ k1.It h N i ∧ k2.It h (N + 1) i
theorem Zst.obj {k1 k2 : Kd} {n N i : Nat} {h : Heap} (q : Zst k1 k2 n N i h) : ∀ b ∈ [N + 4, N + 2, N + 3, N, N + 1], ∃ o, h.get? b = some o ∧ ∀ v, o.data ≠ .cell v := by
  obtain ⟨_, z, ti, ⟨a, b, to⟩, p1, p2⟩ := q
  intro c hc
  have : c = N + 4 ∨ c = N + 2 ∨ c = N + 3 ∨ c = N ∨ c = N + 1 := by simpa using hc
  rcases this with e | e | e | e | e <;> subst e
  · exact ⟨_, z, fun v x => nomatch x⟩
  · exact ⟨_, ti, fun v x => nomatch x⟩
  · exact ⟨_, to, fun v x => nomatch x⟩
  · exact p1.obj
  · exact p2.obj
theorem ad_new {k : Kd} {N j : Nat} (h : ∀ b ∈ k.ad, b < N) : N + j ∉ k.ad := fun x => absurd (h _ x) (Nat.not_lt.mpr (Nat.le_add_right N j))
section
variable {P : Program} {w : World} {K : PySem.W.Frag} {elts : List Expr} {kk : Nat} {tpos : Pos}
theorem turn_zq (k1 k2 : Kd) (n N : Nat) (h1 : ∀ b ∈ k1.ad, b < N) (h2 : ∀ b ∈ k2.ad, b < N) :
    Turn P w K (.Tuple elts kk tpos) (Itq K k1 k2 n) [N + 4, N + 2, N + 3, N, N + 1] (N + 4) (Zst k1 k2 n N) where
  mem := by simp
  obj := fun i h q => q.obj
  keep := fun i h h' q k => by
    obtain ⟨l, z, ti, ⟨a, b, to⟩, p1, p2⟩ := q
    exact ⟨l, k _ (by simp) _ z, k _ (by simp) _ ti, ⟨a, b, k _ (by simp) _ to⟩, p1.keep fun o e => k _ (by simp) o e, p2.keep fun o e => k _ (by simp) o e⟩
  item := by
    intro X hP hw hK hc i pins s σ H E I hf st hg
    subst hP hw hK
    obtain ⟨hlt, xs, ys, a1, a2, hm⟩ := hg
    have live : ∀ b ∈ [N + 4, N + 2, N + 3, N, N + 1], b < s.heap.objs.size := fun b hb => by
      obtain ⟨o, e, _⟩ := st.obj b hb
      exact Heap.lt_size e
    obtain ⟨hle, hz, hTI, hTO, q1, q2⟩ := st
    obtain ⟨P1, S1, D1, s1, r1, g1⟩ := Kd.draws (A := X.A.in1) I k1 a1 q1 (ad_new (j := 0) h1) (I.ok.hd hc)
    obtain ⟨P2, S2, D2, s2, r2, g2⟩ := Kd.draws (A := X.A.in1) I k2 a2 q2 (ad_new (j := 1) h2) (I.ok.hd hc)
    have Wz := GoesN.zip2 (elts := elts) (x1 := kk) (pos := tpos) (zip_sep2 h1 h2) D1 D2
    refine Wz.goes i s _ E (by rw [hm]; exact hlt) ⟨hz, hTI, hTO, s1, s2⟩ fun v h' tk hY st' hk htk => ?_
    obtain ⟨T, u1, u2, rfl, hT, pu1, pu2, hTup⟩ := hY
    obtain ⟨x, hx, rx⟩ := r1 _ _ pu1
    obtain ⟨y, hy, ry⟩ := r2 _ _ pu2
    have new : ObjOk X.prog X.w (upd H T (.tup [x, y])) h' T (.tup [x, y]) := ⟨by show 2 ≤ sizeLine; decide, [u1, u2], .cons rx (.cons ry .nil), hTup⟩
    have I1 := I.turnedNew (t' := tk) (ch := [N + 4, N + 2, N + 3, N, N + 1]) (fun b o hb e => hk b o (fun z => hb (by
      have : b = N + 4 ∨ b = N + 3 ∨ b = N ∨ b = N + 1 := by simpa using z
      rcases this with e | e | e | e <;> simp [e])) e) hf hT new
    refine ⟨.ref T, _, I1, rfl, ⟨T, x, y, rfl, I.hok.fresh hT, rfl, fun l hl => ?_, fun l hl => ?_⟩, ⟨hlt, st'.1, st'.2.1, st'.2.2.1, g1 _ _ st'.2.2.2.1, g2 _ _ st'.2.2.2.2⟩, fun b hb => ?_⟩
    · rw [Kd.At.inj I hl a1]; exact hx
    · rw [Kd.At.inj I hl a2]; exact hy
    · rw [upd_ne (Nat.ne_of_lt (Nat.lt_of_lt_of_le (live b hb) hT))]
      exact (hf b hb).1
  done := by
    intro X hP hw hK hc i pins s σ H E I hf st hg
    subst hP hw hK
    obtain ⟨hge, xs, ys, a1, a2, hm⟩ := hg
    obtain ⟨hle, hz, hTI, hTO, q1, q2⟩ := st
    have hi : i = min xs.length ys.length := by omega
    obtain ⟨P1, S1, D1, s1, r1, g1⟩ := Kd.draws (A := X.A.in1) I k1 a1 q1 (ad_new (j := 0) h1) (I.ok.hd hc)
    obtain ⟨P2, S2, D2, s2, r2, g2⟩ := Kd.draws (A := X.A.in1) I k2 a2 q2 (ad_new (j := 1) h2) (I.ok.hd hc)
    have Wz := GoesN.zip2 (elts := elts) (x1 := kk) (pos := tpos) (zip_sep2 h1 h2) D1 D2
    rw [hi] at s1 s2
    refine Wz.stops s _ E ⟨hz, hTI, hTO, s1, s2⟩ fun h' tk hk htk => ?_
    exact I.turnedL (t' := tk) (ch := [N + 4, N + 2, N + 3, N, N + 1]) (fun b o hb e => hk b o (fun z => hb (by
      have : b = N + 4 ∨ b = N + 3 ∨ b = N ∨ b = N + 1 := by simpa using z
      rcases this with e | e | e | e <;> simp [e])) e) hf
  self := fun A i s Q E st h => wpAny_pyIter_zip st.2.1 h
def Est (k : Kd) (c : Int) (n N : Nat) (i : Nat) (h : Heap) : Prop := i ≤ n ∧ (∃ old, IsEnum h (N + 1) N (c + (i : Int)) old) ∧ k.It h N i
theorem Est.obj {k : Kd} {c : Int} {n N i : Nat} {h : Heap} (q : Est k c n N i h) : ∀ b ∈ [N + 1, N], ∃ o, h.get? b = some o ∧ ∀ v, o.data ≠ .cell v := by
  obtain ⟨_, ⟨o, z⟩, p⟩ := q
  intro b hb
  have : b = N + 1 ∨ b = N := by simpa using hb
  rcases this with e | e <;> subst e
  · exact ⟨_, z, fun v x => nomatch x⟩
  · exact p.obj
theorem turn_eq (k : Kd) (c : Int) (n N : Nat) (h1 : ∀ b ∈ k.ad, b < N) :
    Turn P w K (.Tuple elts kk tpos) (Ieq K k c n) [N + 1, N] (N + 1) (Est k c n N) where
  mem := by simp
  obj := fun i h q => q.obj
  keep := fun i h h' q kp => by
    obtain ⟨l, ⟨o, z⟩, p⟩ := q
    exact ⟨l, ⟨o, kp _ (by simp) _ z⟩, p.keep fun o e => kp _ (by simp) o e⟩
  item := by
    intro X hP hw hK hc i pins s σ H E I hf st hg
    subst hP hw hK
    obtain ⟨hlt, xs, a1, hm⟩ := hg
    have live : ∀ b ∈ [N + 1, N], b < s.heap.objs.size := fun b hb => by
      obtain ⟨o, e, _⟩ := st.obj b hb
      exact Heap.lt_size e
    obtain ⟨hle, hz, q1⟩ := st
    obtain ⟨P1, S1, D1, s1, r1, g1⟩ := Kd.draws (A := X.A.in1) I k a1 q1 (ad_new (j := 0) h1) (I.ok.hd hc)
    have We := GoesN.enumFrom (elts := elts) (x1 := kk) (pos := tpos) c D1 (N + 1) (Nat.succ_ne_self _) (notIn_new (j := 1) (i := 0) h1 (by omega)) (by simp)
    refine We.goes i s _ E (by rw [hm]; exact hlt) ⟨hz, s1⟩ fun v h' tk hY st' hk htk => ?_
    obtain ⟨T, t, u, rfl, hT, pu, hTup⟩ := hY
    obtain ⟨x, hx, rx⟩ := r1 _ _ pu
    have new : ObjOk X.prog X.w (upd H T (.tup [.int (c + (i : Nat)), x])) h' T (.tup [.int (c + (i : Nat)), x]) := ⟨by show 2 ≤ sizeLine; decide, [.int (c + (i : Int)) t, u], .cons ⟨t, rfl⟩ (.cons rx .nil), hTup⟩
    have I1 := I.turnedNew (t' := tk) (ch := [N + 1, N]) (fun b o hb e => hk b o hb e) hf hT new
    refine ⟨.ref T, _, I1, rfl, ⟨T, x, rfl, I.hok.fresh hT, rfl, fun l hl => ?_⟩, ⟨hlt, st'.1, g1 _ _ st'.2⟩, fun b hb => ?_⟩
    · rw [Kd.At.inj I hl a1]; exact hx
    · rw [upd_ne (Nat.ne_of_lt (Nat.lt_of_lt_of_le (live b hb) hT))]
      exact (hf b hb).1
  done := by
    intro X hP hw hK hc i pins s σ H E I hf st hg
    subst hP hw hK
    obtain ⟨hge, xs, a1, hm⟩ := hg
    obtain ⟨hle, hz, q1⟩ := st
    have hi : i = xs.length := by omega
    obtain ⟨P1, S1, D1, s1, r1, g1⟩ := Kd.draws (A := X.A.in1) I k a1 q1 (ad_new (j := 0) h1) (I.ok.hd hc)
    have We := GoesN.enumFrom (elts := elts) (x1 := kk) (pos := tpos) c D1 (N + 1) (Nat.succ_ne_self _) (notIn_new (j := 1) (i := 0) h1 (by omega)) (by simp)
    rw [hi] at s1 hz
    refine We.stops s _ E ⟨hz, s1⟩ fun h' tk hk htk => ?_
    exact I.turnedL (t' := tk) (ch := [N + 1, N]) (fun b o hb e => hk b o hb e) hf
  self := fun A i s Q E st h => let ⟨_, ⟨_, z⟩, _⟩ := st; wpAny_pyIter_enum z h
end

set_option maxHeartbeats 1000000 in
/-- enumerate of one thing -/
theorem meets_enum1 {x : Value} {ob : Obj} {B : Heap → Prop} (b : Begins x ob B) :
    Meets (Builtin.«enumerate.__new__» ⟨[.type "enumerate", x], []⟩) (fun _ R s => B s.heap ∧ R (.ok (.ret (.ref (s.heap.push ob).objs.size)))
      { s with heap := (s.heap.push ob).push { cls := .type "enumerate", data := .fields #[.none, .bool false, .ref s.heap.objs.size, rawInt 0, .none, .none] } }) := .of_wp fun pr w A R s hh => by
  obtain ⟨hp, gg, dd, tt, oo⟩ := s
  obtain ⟨hb, hh⟩ := hh
  have hsub := sub_enumerate
  have qi : ∀ {A' : Around} {E : Value → Shared → Prop} {Q : Value → Shared → Prop}, Q (.ref hp.objs.size) ⟨hp.push ob, gg, dd, tt, oo⟩ → wpAny (model pr w) A' (pyIter x) Q E ⟨hp, gg, dd, tt, oo⟩ := fun z => b.iter pr w _ _ ⟨hp, gg, dd, tt, oo⟩ _ hb z
  wp_walk using qi
  refine wpAny_stack_any fun st => wpAny_pure ?_
  split
  · rename_i cc _ _ _ _ _
    cases (cc == Value.type "enumerate") <;> (wp_walk using qi; exact ⟨_, rfl, hh⟩)
  · wp_walk using qi
    exact ⟨_, rfl, hh⟩
theorem call_enum1 {prog : Program} {w : World} {A : Around} {E : Value → Shared → Prop} {s : Shared} {x : Value} {ob : Obj} {B : Heap → Prop} {Q : Value → Shared → Prop} (b : Begins x ob B) (hb : B s.heap)
    (k : ∀ h', IsEnum h' (s.heap.objs.size + 1) s.heap.objs.size 0 .none → h'.get? s.heap.objs.size = some ob → (∀ c o, s.heap.get? c = some o → h'.get? c = some o) → Q (.ref (s.heap.objs.size + 1)) { s with heap := h' }) :
    wpAny (model prog w) A (call (.type "enumerate") [x]) Q E s := by
  refine callType_new F.called_enumerate (by decide) (F.typeCall_enumerate_1 _) (F.newCall_enumerate_1 _) (fun obj => F.args_object_init_2 obj _) F.entry_enumerate_new (meets_enum1 b) ⟨hb, ?_⟩
  have sz : (s.heap.push ob).objs.size = s.heap.objs.size + 1 := Heap.size_push ..
  have g := Heap.get?_push_size (s.heap.push ob) (o := { cls := .type "enumerate", data := .fields #[.none, .bool false, .ref s.heap.objs.size, rawInt 0, .none, .none] }) rfl
  rw [sz] at g
  show _ ∧ _
  rw [sz]
  exact ⟨⟨_, g, rfl⟩, k _ g (Heap.get?_push_of_some _ (Heap.get?_push_size _ b.free)) fun c o e => Heap.get?_push_of_some _ (Heap.get?_push_of_some _ e)⟩

def iZq (K : PySem.W.Frag) (ta : TA) : TI := fun σ H R => ta σ H fun vs H1 => ∃ k1 k2 xs ys, vs = [Kd.v k1, Kd.v k2] ∧ k1.At K H1 xs ∧ k2.At K H1 ys ∧ R (Itq K k1 k2 (min xs.length ys.length)) H1
def iEq (K : PySem.W.Frag) (ta : TA) : TI := fun σ H R => ta σ H fun vs H1 => ∃ k xs, vs = [Kd.v k] ∧ k.At K H1 xs ∧ R (Ieq K k 0 xs.length) H1
section
variable {X : Cx} {e e2 : Expr} {ta : TA} {p pos tpos : Pos} {elts : List Expr} {kk : Nat}
theorem pi_zq (hg : Gl X "zip") (hm : X.mg "zip" = none) (ha : PA X [e, e2] ta) (hs : starEach [e, e2] X.env = (false, eval e X.env) :: starEach [e2] X.env := by rfl) (hpl : (backTo pos (starEach [e2] X.env)).any (·.1) = false := by rfl) :
    PI X (.Tuple elts kk tpos) (.Call (.Name "zip" p) [e, e2] [] pos) (iZq X.K ta) := by
  refine ⟨fun pins s σ H R I h => ?_⟩
  refine Call_ (ld_blt I hg hm PyProof.Rows.boot_zip (PyProof.Rows.callWith_type1 (thn (ha.run pos pins s σ H _ I h) fun us s1 ⟨vs, H1, I1, rr, k1, k2, xs, ys, ex, a1, a2, q⟩ => ?_) hs hpl))
  subst ex
  cases rr with
  | cons r rr =>
    cases rr with
    | cons r' rr =>
      cases rr
      obtain ⟨o1, B1, b1, t1, g1, l1⟩ := Kd.begins I1 k1 a1 r
      obtain ⟨o2, B2, b2, t2, g2, l2⟩ := Kd.begins I1 k2 a2 r'
      refine zip_begins2 b1 b2 t1 t2 fun h' hz hTI hTO hx hy hsz hk => wpAny_pyIter_zip hz ?_
      have I2 : Inv X pins σ H1 { s1 with heap := h' } := I1.kept (t' := s1.toks) hk
      refine ⟨s1.heap.objs.size + 4, [s1.heap.objs.size + 4, s1.heap.objs.size + 2, s1.heap.objs.size + 3, s1.heap.objs.size, s1.heap.objs.size + 1], _, _, H1, rfl, I2, turn_zq k1 k2 (min xs.length ys.length) s1.heap.objs.size l1 l2, ⟨Nat.zero_le _, hz, hTI, ⟨_, _, hTO⟩, g1 _ _ hx, g2 _ _ hy⟩, fun b hb => ?_, q⟩
      have : b = s1.heap.objs.size + 4 ∨ b = s1.heap.objs.size + 2 ∨ b = s1.heap.objs.size + 3 ∨ b = s1.heap.objs.size ∨ b = s1.heap.objs.size + 1 := by simpa using hb
      have hle : s1.heap.objs.size ≤ b := by rcases this with z | z | z | z | z <;> rw [z] <;> simp
      exact I1.fpOk hle (I1.hok.fresh hle)
theorem pi_eq (hg : Gl X "enumerate") (hm : X.mg "enumerate" = none) (ha : PA X [e] ta) (hs : starEach [e] X.env = [(false, eval e X.env)] := by rfl) :
    PI X (.Tuple elts kk tpos) (.Call (.Name "enumerate" p) [e] [] pos) (iEq X.K ta) := by
  refine ⟨fun pins s σ H R I h => ?_⟩
  refine Call_ (ld_blt I hg hm boot_enumerate (PyProof.Rows.callWith_type1 (thn (ha.run pos pins s σ H _ I h) fun us s1 ⟨vs, H1, I1, rr, k, xs, ex, a1, q⟩ => ?_) hs rfl))
  subst ex
  cases rr with
  | cons r rr =>
    cases rr
    obtain ⟨o1, B1, b1, t1, g1, l1⟩ := Kd.begins I1 k a1 r
    refine call_enum1 b1 t1 fun h' hz hx hk => wpAny_pyIter_enum hz ?_
    have I2 : Inv X pins σ H1 { s1 with heap := h' } := I1.kept (t' := s1.toks) hk
    refine ⟨s1.heap.objs.size + 1, [s1.heap.objs.size + 1, s1.heap.objs.size], _, _, H1, rfl, I2, turn_eq k 0 xs.length s1.heap.objs.size l1, ⟨Nat.zero_le _, ⟨_, hz⟩, g1 _ _ hx⟩, fun b hb => ?_, q⟩
    have : b = s1.heap.objs.size + 1 ∨ b = s1.heap.objs.size := by simpa using hb
    have hle : s1.heap.objs.size ≤ b := by rcases this with z | z <;> rw [z] <;> simp
    exact I1.fpOk hle (I1.hok.fresh hle)
end

/-! ### as functions -/
/-- what is not written, as its items -/
def stOf : D → Option (List D)
  | .tup l => some l
  | .fl l => some l
  | .str s => some (s.map fun c => .str [c])
  | _ => none
def qOf (h : IH) : D → Option (List D)
  | .ref n => lstOf h (.ref n)
  | d => stOf d
def zipQ (a b : D) (n : Nat) (h : IH) : Option (List D) := match qOf h a, qOf h b with
  | some l, some l' => if min l.length l'.length = n then some (List.zipWith (fun x y => .tup [x, y]) l l') else none
  | _, _ => none
def enumQ (a : D) (n : Nat) (h : IH) : Option (List D) := match qOf h a with
  | some l => if l.length = n then some (l.mapIdx fun i x => .tup [.int (i : Nat), x]) else none
  | _ => none
def iZip (m : MA) : MI := fun env h => (m env h).bind fun xs h1 => match xs with
  | [a, b] => match stOf a, stOf b with
    | some l, some l' => .ok (.st (List.zipWith (fun x y => .tup [x, y]) l l')) h1
    | _, _ => match qOf h1 a, qOf h1 b with
      | some l, some l' => .ok (.dy (zipQ a b (min l.length l'.length))) h1
      | _, _ => .no
  | _ => .no
def iEnum (m : MA) : MI := fun env h => (m env h).bind fun xs h1 => match xs with
  | [a] => match stOf a with
    | some l => .ok (.st (l.mapIdx fun i x => .tup [.int (i : Nat), x])) h1
    | _ => match qOf h1 a with
      | some l => .ok (.dy (enumQ a l.length)) h1
      | none => .no
  | _ => .no
def kdOf : D → V → Kd
  | .tup _, .ref a => .tp a
  | .str _, .str s => .tx s
  | _, .ref a => .ls a
  | _, _ => .ls 0
theorem q_kd {G : Cf} {et : List Addr} {H : Hp} {h : IH} {d : D} {l : List D} {v : V} (R : HRel G et h H) (e : qOf h d = some l) (r : Den G et H d v) : v = (kdOf d v).v ∧ ∃ xs : List V, DenL G et H l xs ∧ (kdOf d v).At G.K H xs := by
  cases d with
  | ref n =>
    obtain ⟨a, vs, rfl, h2, h3⟩ := lst_ok R (x := .ref n) e r
    exact ⟨rfl, vs, h3, h2⟩
  | tup l' =>
    cases e
    obtain ⟨a, vs, rfl, h2, h3⟩ := den_tup.mp r
    exact ⟨rfl, vs, h3, TpT.sq h2⟩
  | fl l' =>
    cases e
    obtain ⟨a, vs, rfl, h2, h3⟩ := den_fl.mp r
    exact ⟨rfl, vs, h3, h2.sq⟩
  | str s =>
    cases e
    rw [den_str.mp r]
    refine ⟨rfl, _, ?_, rfl⟩
    have : (strV s).cps.toList.map (fun c => V.str ⟨#[c]⟩) = ((s.map fun c => [c]).map strV).map V.str := by simp [strV]
    rw [this, show (s.map fun c => D.str [c]) = (s.map fun c => [c]).map D.str by simp]
    exact DenL.ofStrs
  | _ => cases e
section
variable {X : Cx} {G : Cf} {W : WX} {e e2 : Expr} {mt : MA} {pos p tpos : Pos} {elts : List Expr} {kk : Nat}
theorem stOf_kd {et : List Addr} {H : Hp} {d : D} {l : List D} {v : V} (e : stOf d = some l) (r : Den G et H d v) : ∃ (k : Kd) (xs : List V), v = k.v ∧ DenL G et H l xs ∧ ∀ H', Ext H H' → k.At G.K H' xs := by
  cases d with
  | tup l' =>
    cases e
    obtain ⟨a, vs, rfl, h2, h3⟩ := den_tup.mp r
    exact ⟨.tp a, vs, rfl, h3, fun H' x => x.sqT h2⟩
  | fl l' =>
    cases e
    obtain ⟨a, vs, rfl, h2, h3⟩ := den_fl.mp r
    exact ⟨.ls a, vs, rfl, h3, fun H' x => (h2.ext x).sq⟩
  | str s =>
    cases e
    refine ⟨.tx (strV s), _, den_str.mp r, ?_, fun H' x => rfl⟩
    have : (strV s).cps.toList.map (fun c => V.str ⟨#[c]⟩) = ((s.map fun c => [c]).map strV).map V.str := by simp [strV]
    rw [this, show (s.map fun c => D.str [c]) = (s.map fun c => [c]).map D.str by simp]
    exact DenL.ofStrs
  | _ => cases e
theorem den_pair {et : List Addr} {H : Hp} {h : IH} {a b : D} {x y : V} {T : Addr} (hT : H T = none) (ra : Den G et H a x) (rb : Den G et H b y) : Den G et (upd H T (.tup [x, y])) (.tup [a, b]) (.ref T) := by
  have ex : Ext H (upd H T (.tup [x, y])) := Ext.new hT
  exact den_tup.mpr ⟨T, [x, y], rfl, upd_same .., denL_cons.mpr ⟨x, [y], rfl, ra.mono List.prefix_rfl ex, denL_cons.mpr ⟨y, [], rfl, rb.mono List.prefix_rfl ex, denL_nil.mpr rfl⟩⟩⟩
theorem mi_zip (hK : X.K = G.K) (ha : PA X [e, e2] (tA G W mt)) (hm : X.mg "zip" = none) (hg : Gl X "zip" := by rfl) (hs : starEach [e, e2] X.env = (false, eval e X.env) :: starEach [e2] X.env := by rfl) (hpl : (backTo pos (starEach [e2] X.env)).any (·.1) = false := by rfl) :
    PI X (.Tuple elts kk tpos) (.Call (.Name "zip" p) [e, e2] [] pos) (tI G W (iZip mt)) := PI.imp (pi_zq hg hm ha hs hpl) fun σ H R ⟨et, env, h, hE, hH, hP⟩ => by
  rw [hK]
  refine ⟨et, env, h, hE, hH, (Pst.of_bind hP).imp fun et1 H1 h1 xs p e hr q vs hv => ?_⟩
  split at q
  · rename_i a b
    obtain ⟨v, w, rfl, ra, rb⟩ := list2 hv
    have dyn : ∀ l l', qOf h1 a = some l → qOf h1 b = some l' → Pst G et1 H1 (.ok (Src.dy (zipQ a b (min l.length l'.length))) h1) (fun et' H' _ src => ∀ J, JRel G et' H' src J → R J H') (fun c d H' => W c d σ H') → ∃ k1 k2 xs ys, [v, w] = [Kd.v k1, Kd.v k2] ∧ k1.At G.K H1 xs ∧ k2.At G.K H1 ys ∧ R (Itq G.K k1 k2 (min xs.length ys.length)) H1 := fun l l' ea eb q => by
      obtain ⟨v1, xs, d1, a1⟩ := q_kd hr ea ra
      obtain ⟨v2, ys, d2, a2⟩ := q_kd hr eb rb
      have n1 := d1.len
      have n2 := d2.len
      refine ⟨kdOf a v, kdOf b w, xs, ys, by rw [← v1, ← v2], a1, a2, q.here hr _ fun et2 H2 h2 p2 e2 R2 ok i => ?_⟩
      have ok' : (zipQ a b (min l.length l'.length) h2).isSome = true := ok
      obtain ⟨zs, ez⟩ := Option.isSome_iff_exists.mp ok'
      show (match (zipQ a b (min l.length l'.length) h2).bind fun xs => xs[i]? with | some d => _ | none => _)
      rw [ez]
      unfold zipQ at ez
      cases qa : qOf h2 a with
      | none => rw [qa] at ez; cases ez
      | some m =>
        cases qb : qOf h2 b with
        | none => rw [qa, qb] at ez; cases ez
        | some m' =>
          rw [qa, qb] at ez
          dsimp only at ez
          split at ez
          · rename_i hn
            cases ez
            obtain ⟨_, xs2, f1, b1⟩ := q_kd R2 qa (ra.mono p2 e2)
            obtain ⟨_, ys2, f2, b2⟩ := q_kd R2 qb (rb.mono p2 e2)
            have n3 := f1.len
            have n4 := f2.len
            show (match (List.zipWith (fun x y => D.tup [x, y]) m m')[i]? with | some d => _ | none => _)
            rw [List.getElem?_zipWith]
            cases e3 : m[i]? with
            | none =>
              have := List.getElem?_eq_none_iff.mp e3
              exact ⟨by omega, xs2, ys2, b1, b2, by omega⟩
            | some d =>
              cases e4 : m'[i]? with
              | none =>
                have := List.getElem?_eq_none_iff.mp e4
                exact ⟨by omega, xs2, ys2, b1, b2, by omega⟩
              | some d' =>
                have m1 := (List.getElem?_eq_some_iff.mp e3).1
                have m2 := (List.getElem?_eq_some_iff.mp e4).1
                refine ⟨⟨by omega, xs2, ys2, b1, b2, by omega⟩, fun z H' ⟨T, x, y, hz, hT, hH', hx, hy⟩ => ?_⟩
                subst hz hH'
                obtain ⟨v1, w1, r1⟩ := f1.get e3
                obtain ⟨v2, w2, r2⟩ := f2.get e4
                have x1 := hx _ b1
                have x2 := hy _ b2
                rw [w1] at x1
                rw [w2] at x2
                cases x1
                cases x2
                exact ⟨Ext.new hT, R2.new hT, den_pair (h := h2) hT r1 r2⟩
          · cases ez
    have alt : Pst G et1 H1 (match qOf h1 a, qOf h1 b with
      | some l, some l' => NR.R.ok (Src.dy (zipQ a b (min l.length l'.length))) h1
      | _, _ => .no) (fun et' H' _ src => ∀ J, JRel G et' H' src J → R J H') (fun c d H' => W c d σ H') → ∃ k1 k2 xs ys, [v, w] = [Kd.v k1, Kd.v k2] ∧ k1.At G.K H1 xs ∧ k2.At G.K H1 ys ∧ R (Itq G.K k1 k2 (min xs.length ys.length)) H1 := fun q => by
      cases qa : qOf h1 a with
      | none => rw [qa] at q; exact q.elim
      | some l =>
        cases qb : qOf h1 b with
        | none => rw [qa, qb] at q; exact q.elim
        | some l' => rw [qa, qb] at q; exact dyn l l' qa qb q
    cases ea : stOf a with
    | none => rw [ea] at q; exact alt q
    | some l =>
      cases eb : stOf b with
      | none => rw [ea, eb] at q; exact alt q
      | some l' =>
        rw [ea, eb] at q
        obtain ⟨k1, xs, rfl, d1, st1⟩ := stOf_kd ea ra
        obtain ⟨k2, ys, rfl, d2, st2⟩ := stOf_kd eb rb
        refine ⟨k1, k2, xs, ys, rfl, st1 _ (Ext.refl _), st2 _ (Ext.refl _), q.here hr _ (jrel_st fun et2 H2 h2 p2 e2 R2 i => ?_)⟩
        have n1 := d1.len
        have n2 := d2.len
        rw [List.getElem?_zipWith]
        cases e3 : l[i]? with
        | none =>
          have := List.getElem?_eq_none_iff.mp e3
          exact ⟨by omega, xs, ys, st1 _ e2, st2 _ e2, rfl⟩
        | some d =>
          cases e4 : l'[i]? with
          | none =>
            have := List.getElem?_eq_none_iff.mp e4
            exact ⟨by omega, xs, ys, st1 _ e2, st2 _ e2, rfl⟩
          | some d' =>
            have m1 := (List.getElem?_eq_some_iff.mp e3).1
            have m2 := (List.getElem?_eq_some_iff.mp e4).1
            refine ⟨⟨by omega, xs, ys, st1 _ e2, st2 _ e2, rfl⟩, fun z H' ⟨T, x, y, hz, hT, hH', hx, hy⟩ => ?_⟩
            subst hz hH'
            obtain ⟨v1, w1, r1⟩ := d1.get e3
            obtain ⟨v2, w2, r2⟩ := d2.get e4
            have x1 := hx _ (st1 _ e2)
            have x2 := hy _ (st2 _ e2)
            rw [w1] at x1
            rw [w2] at x2
            cases x1
            cases x2
            exact ⟨Ext.new hT, R2.new hT, den_pair (h := h2) hT (r1.mono p2 e2) (r2.mono p2 e2)⟩
  · exact q.elim
theorem mi_enum (hK : X.K = G.K) (ha : PA X [e] (tA G W mt)) (hm : X.mg "enumerate" = none) (hg : Gl X "enumerate" := by rfl) (hs : starEach [e] X.env = [(false, eval e X.env)] := by rfl) :
    PI X (.Tuple elts kk tpos) (.Call (.Name "enumerate" p) [e] [] pos) (tI G W (iEnum mt)) := PI.imp (pi_eq hg hm ha hs) fun σ H R ⟨et, env, h, hE, hH, hP⟩ => by
  rw [hK]
  refine ⟨et, env, h, hE, hH, (Pst.of_bind hP).imp fun et1 H1 h1 xs p e hr q vs hv => ?_⟩
  split at q
  · rename_i a
    obtain ⟨v, rfl, ra⟩ := list1 hv
    cases ea : stOf a with
    | none =>
      rw [ea] at q
      cases qa : qOf h1 a with
      | none => rw [qa] at q; exact q.elim
      | some l =>
        rw [qa] at q
        obtain ⟨v1, xs, d1, a1⟩ := q_kd hr qa ra
        have n1 := d1.len
        refine ⟨kdOf a v, xs, by rw [← v1], a1, q.here hr _ fun et2 H2 h2 p2 e2 R2 ok i => ?_⟩
        have ok' : (enumQ a l.length h2).isSome = true := ok
        obtain ⟨zs, ez⟩ := Option.isSome_iff_exists.mp ok'
        show (match (enumQ a l.length h2).bind fun xs => xs[i]? with | some d => _ | none => _)
        rw [ez]
        unfold enumQ at ez
        cases qb : qOf h2 a with
        | none => rw [qb] at ez; cases ez
        | some m =>
          rw [qb] at ez
          dsimp only at ez
          split at ez
          · rename_i hn
            cases ez
            obtain ⟨_, xs2, f1, b1⟩ := q_kd R2 qb (ra.mono p2 e2)
            have n3 := f1.len
            show (match (m.mapIdx fun i x => D.tup [.int (i : Nat), x])[i]? with | some d => _ | none => _)
            rw [List.getElem?_mapIdx]
            cases e3 : m[i]? with
            | none =>
              have := List.getElem?_eq_none_iff.mp e3
              exact ⟨by omega, xs2, b1, by omega⟩
            | some d =>
              have m1 := (List.getElem?_eq_some_iff.mp e3).1
              refine ⟨⟨by omega, xs2, b1, by omega⟩, fun z H' ⟨T, x, hz, hT, hH', hx⟩ => ?_⟩
              subst hz hH'
              obtain ⟨v1, w1, r1⟩ := f1.get e3
              have x1 := hx _ b1
              rw [w1] at x1
              cases x1
              exact ⟨Ext.new hT, R2.new hT, den_pair (h := h2) hT (by simp) r1⟩
          · cases ez
    | some l =>
      rw [ea] at q
      obtain ⟨k1, xs, rfl, d1, st1⟩ := stOf_kd ea ra
      refine ⟨k1, xs, rfl, st1 _ (Ext.refl _), q.here hr _ (jrel_st fun et2 H2 h2 p2 e2 R2 i => ?_)⟩
      have n1 := d1.len
      rw [List.getElem?_mapIdx]
      cases e3 : l[i]? with
      | none =>
        have := List.getElem?_eq_none_iff.mp e3
        exact ⟨by omega, xs, st1 _ e2, rfl⟩
      | some d =>
        have m1 := (List.getElem?_eq_some_iff.mp e3).1
        refine ⟨⟨by omega, xs, st1 _ e2, rfl⟩, fun z H' ⟨T, x, hz, hT, hH', hx⟩ => ?_⟩
        subst hz hH'
        obtain ⟨v1, w1, r1⟩ := d1.get e3
        have x1 := hx _ (st1 _ e2)
        rw [w1] at x1
        cases x1
        exact ⟨Ext.new hT, R2.new hT, den_pair (h := h2) hT (by simp) (r1.mono p2 e2)⟩
  · exact q.elim
end
end NR

set_option Elab.async false
set_option linter.all false
set_option maxRecDepth 100000
set_option maxHeartbeats 1000000
/-! A def that calls itself. -/
namespace NR
open PySem PySem.Spec PyProof.Rows L2
/-- nothing is told -/
def mNo : MF := fun _ _ => .no
theorem fnG_no {P : Program} {w : World} {K : PySem.W.Frag} {mg : Str → Option Value} {base : Heap} {G : Cf} {x : Str} {st : Stmt} {ps : List Str} {k n : Nat} (d : DefAt K mg x st ps) (hn : ps.length = n) : FnG P w K mg base G x k n mNo :=
  d.fn fun f fd F => ⟨fun vs H Q E h => h.1.trans hn.symm, fun A outer s H args us vs Q E hr he hb hv hs => by
    obtain ⟨_, et, ds, h, _, _, hP⟩ := hs
    exact hP.elim⟩
end NR

set_option Elab.async false
set_option linter.all false
set_option maxRecDepth 100000
set_option maxHeartbeats 1000000
/-! Dicts: keys ints and texts, or tuples of such. -/
namespace NR
open PySem PySem.Spec PyProof.Rows L2
def keyT? : D → Option (List DKey)
  | .tup l => allM keyD? l
  | _ => none
def valKD {κ : Type} [DecidableEq κ] (kvs : List (κ × D)) (k : κ) : Option D := (kvs.find? fun p => decide (p.1 = k)).map (·.2)
/-- what a dict holds at a key -/
def dGet? (h : IH) (o i : D) : Option (Option D) := match o with
  | .ref n => match h[n]? with
    | some (.dk kvs) => (keyD? i).map (valKD kvs)
    | some (.dt kvs) => (keyT? i).map (valKD kvs)
    | _ => none
  | .fd ks l => (keyD? i).map (valKD (ks.zip l))
  | _ => none
theorem key_den {G : Cf} {et : List Addr} {H : Hp} {d : D} {v : V} {k : DKey} (e : keyD? d = some k) (r : Den G et H d v) : v = kV (keyV k) := by
  unfold keyD? at e
  split at e
  · cases e; exact den_int.mp r
  · cases e; exact den_str.mp r
  · cases e
theorem keys_den {G : Cf} {et : List Addr} {H : Hp} : ∀ {l : List D} {vs : List V} {ks : List DKey}, allM keyD? l = some ks → DenL G et H l vs → vs = (ks.map keyV).map kV
  | [], vs, ks, e, r => by
    simp only [allM, Option.some.injEq] at e
    subst e
    exact denL_nil.mp r
  | d :: l, vs, ks, e, r => by
    obtain ⟨a, as, e1, e2, rfl⟩ := allM_cons e
    obtain ⟨v, ws, rfl, r1, r2⟩ := denL_cons.mp r
    rw [key_den e1 r1, keys_den e2 r2]
    rfl
theorem keyVs_inj : ∀ {a b : List DKey}, a.map keyV = b.map keyV → a = b
  | [], [], _ => rfl
  | [], _ :: _, h => by simp at h
  | _ :: _, [], h => by simp at h
  | x :: a, y :: b, h => by
    simp only [List.map_cons, List.cons.injEq] at h
    rw [keyV_inj h.1, keyVs_inj h.2]
def OptR (G : Cf) (et : List Addr) (H : Hp) : Option D → Option V → Prop
  | some d, some v => Den G et H d v
  | none, none => True
  | _, _ => False
theorem denK_val {κ κ' : Type} [DecidableEq κ] [DecidableEq κ'] {f : κ → κ'} (inj : ∀ a b, f a = f b → a = b) {G : Cf} {et : List Addr} {H : Hp} (k : κ) : ∀ {kvs : List (κ × D)} {ws : List (κ' × V)}, DenK f G et H kvs ws →
    OptR G et H (valKD kvs k) (valV ws (f k))
  | [], [], h => trivial
  | [], _ :: _, h => by have := h.1; simp at this
  | _ :: _, [], h => by have := h.1; simp at this
  | p :: kvs, q :: ws, h => by
    obtain ⟨h1, h2⟩ := h
    simp only [List.map_cons, List.cons.injEq] at h1
    simp only [List.map_cons] at h2
    obtain ⟨v0, ws0, e0, h3, h4⟩ := denL_cons.mp h2
    simp only [List.cons.injEq] at e0
    obtain ⟨rfl, rfl⟩ := e0
    have ih := denK_val inj (G := G) (et := et) (H := H) k (kvs := kvs) (ws := ws) ⟨h1.2, h4⟩
    by_cases e : p.1 = k
    · have e' : q.1 = f k := by rw [h1.1, e]
      have a1 : valKD (p :: kvs) k = some p.2 := by simp [valKD, e]
      rw [a1, valV_pos e']
      exact h3
    · have e' : ¬ q.1 = f k := fun z => e (inj _ _ (h1.1.symm.trans z))
      have a1 : valKD (p :: kvs) k = valKD kvs k := by simp [valKD, e]
      rw [a1, valV_neg e']
      exact ih
theorem denK_zip {G : Cf} {et : List Addr} {H : Hp} : ∀ {ks : List DKey} {l : List D} {ws : List (Key × V)}, ws.map (·.1) = ks.map keyV → DenL G et H l (ws.map (·.2)) → DenK keyV G et H (ks.zip l) ws
  | [], l, [], h1, h2 => by
    have := h2.len
    have : l = [] := List.eq_nil_of_length_eq_zero (by simpa using this.symm)
    subst this
    exact ⟨rfl, by simp⟩
  | [], _, _ :: _, h1, _ => by simp at h1
  | _ :: _, _, [], h1, _ => by simp at h1
  | k :: ks, l, w :: ws, h1, h2 => by
    simp only [List.map_cons, List.cons.injEq] at h1 h2
    cases l with
    | nil => have := h2.len; simp at this
    | cons d l =>
      obtain ⟨v0, ws0, e0, h3, h4⟩ := denL_cons.mp h2
      simp only [List.cons.injEq] at e0
      obtain ⟨e1, e2⟩ := e0
      have ih := denK_zip h1.2 (e2 ▸ h4)
      refine ⟨by simp [h1.1, ih.1], ?_⟩
      simp only [List.zip_cons_cons, List.map_cons]
      exact denL_cons.mpr ⟨w.2, _, rfl, by rw [e1]; exact h3, ih.2⟩
section
variable {G : Cf} {et : List Addr} {H : Hp} {h : IH}
theorem dget_of (R : HRel G et h H) {o i : D} {r : Option D} {vo vi : V} (e : dGet? h o i = some r) (ro : Den G et H o vo) (ri : Den G et H i vi) : ∃ a u, vo = .ref a ∧ DGet H a vi u ∧ OptR G et H r u := by
  cases o with
  | ref n =>
    obtain ⟨a, h1, rfl⟩ := den_ref.mp ro
    simp only [dGet?] at e
    split at e
    · rename_i kvs hc
      obtain ⟨ws, c1, c2⟩ := R.cell n _ a hc h1
      simp only [Option.map_eq_some_iff] at e
      obtain ⟨k, e1, rfl⟩ := e
      rw [key_den e1 ri]
      exact ⟨a, _, rfl, DGet.k c1, denK_val (fun a b => keyV_inj) k c2⟩
    · rename_i kvs hc
      obtain ⟨ws, c1, c2⟩ := R.cell n _ a hc h1
      simp only [Option.map_eq_some_iff] at e
      obtain ⟨k, e1, rfl⟩ := e
      cases i with
      | tup l =>
        obtain ⟨b, vs, rfl, t1, t2⟩ := den_tup.mp ri
        have ek := keys_den (show allM keyD? l = some k from e1) t2
        subst ek
        exact ⟨a, _, rfl, DGet.t c1 t1, denK_val (fun a b => keyVs_inj) k c2⟩
      | _ => cases e1
    · cases e
  | fd ks l =>
    obtain ⟨a, ws, rfl, ⟨oo, c1⟩, c2, c3⟩ := den_fd.mp ro
    simp only [dGet?, Option.map_eq_some_iff] at e
    obtain ⟨k, e1, rfl⟩ := e
    rw [key_den e1 ri]
    exact ⟨a, _, rfl, .inl ⟨ws, _, .inr ⟨oo, c1⟩, rfl, rfl⟩, denK_val (fun a b => keyV_inj) k (denK_zip c2 c3)⟩
  | _ => cases e
end
/-- k in d -/
def dDIn (neg : Bool) : D → D → IH → R D := fun x y h => match dGet? h y x with
  | some r => .ok (.bl (if neg then !r.isSome else r.isSome)) h
  | none => .no
/-- d[k] -/
def dDGet : D → D → IH → R D := fun o i h => match dGet? h o i with
  | some (some d) => .ok d h
  | _ => .no
def rDIn (neg : Bool) : R2 := fun x y H Q => ∃ a o, y = .ref a ∧ DGet H a x o ∧ Q (.bl (if neg then !o.isSome else o.isSome)) H
section
variable {X : Cx} {G : Cf} {W : WX}
theorem op_dIn (hu : X.A.units + 64 < cLine) : OpR X (compareOp .In) (rDIn false) := by
  intro pins s σ H x y v u Q I rx ry h
  obtain ⟨a, o, rfl, g, q⟩ := h
  obtain rfl : u = Value.ref a := ry
  exact d_in (by omega) I g rx fun s3 I3 => ⟨.bl o.isSome, H, I3, rfl, q⟩
theorem op_dNotIn (hu : X.A.units + 64 < cLine) : OpR X (compareOp .NotIn) (rDIn true) := by
  intro pins s σ H x y v u Q I rx ry h
  obtain ⟨a, o, rfl, g, q⟩ := h
  obtain rfl : u = Value.ref a := ry
  exact d_notIn (by omega) I g rx fun s3 I3 => ⟨.bl (!o.isSome), H, I3, rfl, q⟩
theorem dDIn_ok (neg : Bool) : OpS G (rDIn neg) (dDIn neg) := by
  intro et H h x y v w W Q rx ry R p
  unfold dDIn at p
  split at p
  · rename_i r e
    obtain ⟨a, u, rfl, g, hr⟩ := dget_of R e ry rx
    have es : u.isSome = r.isSome := by
      cases u <;> cases r <;> first | rfl | exact hr.elim
    refine ⟨a, u, rfl, g, ?_⟩
    rw [es]
    exact p.here R _ (by simp)
  · exact p.elim
theorem me_dget {a b : Expr} {ma mb : ME} {pos : Pos} (hu : X.A.units + 64 < cLine) (ha : PE X a (tE G W ma)) (hb : PE X b (tE G W mb)) (hs : NoSl b := by exact fun _ _ => rfl) : PE X (.Subscript a b pos) (tE G W (mOp dDGet ma mb)) :=
  PE.imp (pe_dget (by omega) ha hb hs) fun σ H Q ⟨et, env, h, hE, hH, hP⟩ => by
    refine ⟨et, env, h, hE, hH, (Pst.of_bind hP).imp fun et1 H1 h1 x p e hr q v hv => ?_⟩
    refine ⟨et1, env, h1, hE.mono p e, hr, (Pst.of_bind q).imp fun et2 H2 h2 y p2 e2 hr2 q2 w hw => ?_⟩
    unfold dDGet at q2
    split at q2
    · rename_i d ed
      obtain ⟨a, u, rfl, g, hd⟩ := dget_of hr2 ed (hv.mono p2 e2) hw
      cases u with
      | none => exact hd.elim
      | some z => exact ⟨a, z, rfl, g, q2.here hr2 _ hd⟩
    · exact q2.elim
/-- d.get(k) -/
def dDGet1 : D → D → IH → R D := fun o i h => match dGet? h o i with
  | some r => .ok (r.getD .non) h
  | none => .no
def isDD (h : IH) : D → Bool
  | .ref n => match h[n]? with
    | some (.dk _) => true
    | some (.dt _) => true
    | _ => false
  | _ => false
theorem isDD_ok {et : List Addr} {H : Hp} {h : IH} (R : HRel G et h H) {d : D} {v : V} (e : isDD h d = true) (r : Den G et H d v) : ∃ a, v = .ref a ∧ IsD H a := by
  cases d with
  | ref n =>
    obtain ⟨a, h1, rfl⟩ := den_ref.mp r
    simp only [isDD] at e
    split at e
    · rename_i kvs hc
      obtain ⟨ws, c1, c2⟩ := R.cell n _ a hc h1
      exact ⟨a, rfl, .inl ⟨ws, .inl c1⟩⟩
    · rename_i kvs hc
      obtain ⟨ws, c1, c2⟩ := R.cell n _ a hc h1
      exact ⟨a, rfl, .inr ⟨ws, .inl c1⟩⟩
    · cases e
  | _ => cases e
def mDGet1 (mo mi : ME) : ME := fun env h => (mo env h).bind fun x h1 => if isDD h1 x = true then (mi env h1).bind fun y h2 => dDGet1 x y h2 else .no
theorem me_dget1 {o e : Expr} {mo mi : ME} {apos cpos : Pos} (hu : X.A.units + 64 < cLine) (ho : PE X o (tE G W mo)) (he : PE X e (tE G W mi)) (m : M1 X o "get" apos e cpos := by exact ⟨rfl, rfl, rfl, rfl⟩) : PE X (.Call (.Attribute o "get" apos) [e] [] cpos) (tE G W (mDGet1 mo mi)) :=
  PE.imp (pe_dget1 (by omega) ho he m) fun σ H Q ⟨et, env, h, hE, hH, hP⟩ => by
    refine ⟨et, env, h, hE, hH, (Pst.of_bind hP).imp fun et1 H1 h1 x p e hr q v hv => ?_⟩
    split at q
    · rename_i c
      obtain ⟨a, rfl, hd⟩ := isDD_ok hr c hv
      refine ⟨a, rfl, hd, et1, env, h1, hE.mono p e, hr, (Pst.of_bind q).imp fun et2 H2 h2 y p2 e2 hr2 q2 w hw => ?_⟩
      unfold dDGet1 at q2
      split at q2
      · rename_i r ed
        obtain ⟨b, u, eb, g, hd⟩ := dget_of hr2 ed (hv.mono p2 e2) hw
        cases eb
        refine ⟨u, g, q2.here hr2 _ ?_⟩
        cases u <;> cases r <;> first | exact hd.elim | skip
        · simp
        · exact hd
      · exact q2.elim
    · exact q.elim
/-- d[k] = v -/
def putDD (o i v : D) (h : IH) : Option IH := match o with
  | .ref n => match h[n]? with
    | some (.dk kvs) => match keyD? i with
      | some k => if kvs.length < 10000000 then some (h.set n (.dk (putKD kvs k v))) else none
      | none => none
    | some (.dt kvs) => match keyT? i with
      | some k => if kvs.length < 10000000 then some (h.set n (.dt (putKD kvs k v))) else none
      | none => none
    | _ => none
  | _ => none
def rSetD : V → V → V → Hp → (Hp → Prop) → Prop := fun o i v H Q => ∃ a H', o = .ref a ∧ DPut H a i v H' ∧ Q H'
theorem set_dict (hu : X.A.units + 64 < cLine) : PSet X rSetD := by
  intro pins s σ H o i v ov iv u Q I ro ri rv h
  obtain ⟨a, H', rfl, g, q⟩ := h
  obtain rfl : ov = Value.ref a := ro
  exact d_setItem (by omega) I g ri rv fun s4 I4 => ⟨H', I4, q⟩
theorem putDD_ok {et : List Addr} {H : Hp} {h h' : IH} (R : HRel G et h H) {o i v : D} {vo vi vv : V} {Q : Hp → Prop} (e : putDD o i v h = some h') (ro : Den G et H o vo) (ri : Den G et H i vi) (rv : Den G et H v vv) (q : ∀ H', Ext H H' → HRel G et h' H' → Q H') : rSetD vo vi vv H Q := by
  cases o with
  | ref n =>
    obtain ⟨a, h1, rfl⟩ := den_ref.mp ro
    simp only [putDD] at e
    split at e
    · rename_i kvs hc
      split at e
      · rename_i k ek
        split at e
        · rename_i l
          cases e
          obtain ⟨ws, c1, c2⟩ := R.cell n _ a hc h1
          rw [key_den ek ri]
          have lw : ws.length = kvs.length := by have := congrArg List.length c2.1; simpa using this
          have ex : Ext H (upd H a (.dK (putK ws (keyV k) vv))) := Ext.mut c1 True.intro
          refine ⟨a, _, rfl, DPut.k c1 (by rw [lw, sizeLine_eq]; omega), q _ ex (R.set hc h1 rfl c1 True.intro ⟨_, upd_same, (denK_put (fun a b => keyV_inj) rv c2).mono List.prefix_rfl ex⟩)⟩
        · cases e
      · cases e
    · rename_i kvs hc
      split at e
      · rename_i k ek
        split at e
        · rename_i l
          cases e
          obtain ⟨ws, c1, c2⟩ := R.cell n _ a hc h1
          cases i with
          | tup t =>
            obtain ⟨b, vs, rfl, t1, t2⟩ := den_tup.mp ri
            have ek := keys_den (show allM keyD? t = some k from ek) t2
            subst ek
            have lw : ws.length = kvs.length := by have := congrArg List.length c2.1; simpa using this
            have ex : Ext H (upd H a (.dT (putK ws (k.map keyV) vv))) := Ext.mut c1 True.intro
            refine ⟨a, _, rfl, DPut.t c1 t1 (by rw [lw, sizeLine_eq]; omega), q _ ex (R.set hc h1 rfl c1 True.intro ⟨_, upd_same, (denK_put (fun a b => keyVs_inj) rv c2).mono List.prefix_rfl ex⟩)⟩
          | _ => cases ek
        · cases e
      · cases e
    · cases e
  | _ => cases e
def msSetD (mo mi me : ME) : MS := fun env h => (me env h).bindS env fun v h1 => (mo env h1).bindS env fun o h2 => (mi env h2).bindS env fun i h3 => match putDD o i v h3 with
  | some h4 => .nx env h4
  | none => .no
theorem ms_setD {e o i : Expr} {me mo mi : ME} {pos pos' : Pos} (hu : X.A.units + 64 < cLine) (he : PE X e (tE G W me)) (ho : PE X o (tE G W mo)) (hi : PE X i (tE G W mi)) (ha : ∀ v, assign (.Subscript o i pos') X.env v = (do
      let ov ← holding [v] (eval o X.env)
      let iv ← holding [v, ov] (eval i X.env)
      standAt pos'
      holding [v, ov, iv] (setItem ov iv v)
      release [v, ov, iv] []) := by intro _; rfl) (hs : swapsWithSole [.Subscript o i pos'] e pos.line X.env = pure false := by rfl) (hw : swappedStores [.Subscript o i pos'] e X.env = pure none := by rfl)
    (h1 : (assignEach [.Subscript o i pos'] X.env).map (·.2) = [assign (.Subscript o i pos') X.env] := by rfl) : PS X (.Assign [.Subscript o i pos'] e pos) (tS G W (msSetD mo mi me)) :=
  PS.imp (ps_asg he (pg_sub ho hi (set_dict hu) ha) hs hw h1) fun D σ H ⟨et, env, h, hE, hH, hP⟩ => by
    refine ⟨et, env, h, hE, hH, (PstS.of_bind hE hP).imp fun et1 H1 h1 v p e hr q vv hv => ?_⟩
    have hE1 := hE.mono p e
    refine ⟨et1, env, h1, hE1, hr, (PstS.of_bind hE1 q).imp fun et2 H2 h2 o p2 e2 hr2 q2 vo ho => ?_⟩
    have hE2 := hE1.mono p2 e2
    refine ⟨et2, env, h2, hE2, hr2, (PstS.of_bind hE2 q2).imp fun et3 H3 h3 i p3 e3 hr3 q3 vi hi => ?_⟩
    have hE3 := hE2.mono p3 e3
    split at q3
    · rename_i h4 e4
      exact putDD_ok hr3 e4 (ho.mono p3 e3) hi ((hv.mono p2 e2).mono p3 e3) fun H' ex hr4 => q3 et3 H' σ List.prefix_rfl ex hr4 (hE3.mono List.prefix_rfl ex)
    · exact q3.elim
/-- an empty dict with tuples as keys -/
def mDictT : ME := fun _ h => .ok (.ref h.length) (h ++ [.dt []])
theorem me_dict0T {pos : Pos} : PE X (.Dict [] [] pos) (tE G W mDictT) := PE.imp pe_dnewT fun σ H Q ⟨et, env, h, hE, hH, hP⟩ p hp => by
  have hH1 : HRel G (et ++ [p]) (h ++ [.dt []]) (upd H p (.dT [])) := hH.push hp ⟨[], upd_same, rfl, by simp⟩
  refine hP (et ++ [p]) _ (List.prefix_append _ _) (Ext.new hp) hH1 _ (den_ref.mpr ⟨p, ?_, rfl⟩)
  rw [← hH.len]
  simp
end
end NR

set_option Elab.async false
set_option linter.all false
set_option maxRecDepth 100000
set_option maxHeartbeats 1000000
/-! More sources, more operators. -/
namespace NR
open PySem PySem.Spec PyProof.Rows L2
/-! ### ranges downwards -/
def intsDown (hi : Int) (n : Nat) : List D := (List.range n).map fun i => .int (hi - (i : Nat))
def iRange3 (m : MA) : MI := fun env h => (m env h).bind fun xs h1 => match xs with
  | [.int i, .int j, .int c] => if c = -1 ∧ -10000000 ≤ i ∧ i ≤ 10000000 ∧ -10000000 ≤ j ∧ j ≤ 10000000 then .ok (.st (intsDown i (i - j).toNat)) h1 else .no
  | _ => .no
theorem down_get (hi : Int) (n i : Nat) : (intsDown hi n)[i]? = if i < n then some (.int (hi - (i : Nat))) else none := by
  unfold intsDown
  rw [List.getElem?_map]
  by_cases h : i < n
  · rw [if_pos h, List.getElem?_range h]
    rfl
  · rw [if_neg h, List.getElem?_eq_none (by simpa using h)]
    rfl
section
variable {X : Cx} {G : Cf} {W : WX} {e tg : Expr} {es : List Expr} {me : ME} {mt : MA} {pos p : Pos}
theorem jrel_down {et : List Addr} {H : Hp} {hi : Int} {n : Nat} : JRel G et H (.st (intsDown hi n)) (Itc hi (-1) n) := jrel_st fun et1 H1 h1 p ex R i => by
  rw [down_get]
  by_cases h : i < n
  · rw [if_pos h]
    refine ⟨h, fun x H' ⟨hH, hx⟩ => ?_⟩
    rw [hH, hx]
    refine ⟨Ext.refl _, R, ?_⟩
    rw [den_int]
    congr 1
    omega
  · rw [if_neg h]
    show n ≤ i
    omega
theorem list3 {et : List Addr} {H : Hp} {a b c : D} {vs : List V} (h : DenL G et H [a, b, c] vs) : ∃ x y z, vs = [x, y, z] ∧ Den G et H a x ∧ Den G et H b y ∧ Den G et H c z := by
  obtain ⟨x, v1, rfl, h1, k⟩ := denL_cons.mp h
  obtain ⟨y, v2, rfl, h2, k⟩ := denL_cons.mp k
  obtain ⟨z, v3, rfl, h3, k⟩ := denL_cons.mp k
  rw [denL_nil.mp k]
  exact ⟨x, y, z, rfl, h1, h2, h3⟩
theorem mi_range3 {a b c : Expr} (ha : PA X [a, b, c] (tA G W mt)) (hm : X.mg "range" = none) (hg : Gl X "range" := by rfl) (hs : starEach [a, b, c] X.env = (false, eval a X.env) :: starEach [b, c] X.env := by rfl) (hpl : (backTo pos (starEach [b, c] X.env)).any (·.1) = false := by rfl) : PI X tg (.Call (.Name "range" p) [a, b, c] [] pos) (tI G W (iRange3 mt)) :=
  PI.imp (pi_range3 hg hm ha hs hpl) fun σ H R ⟨et, env, h, hE, hH, hP⟩ => by
    refine ⟨et, env, h, hE, hH, (Pst.of_bind hP).imp fun et1 H1 h1 xs p e hr q vs hv => ?_⟩
    split at q
    · split at q
      · rename_i i j k c
        obtain ⟨v, w, u, rfl, r1, r2, r3⟩ := list3 hv
        obtain ⟨rfl, c1, c2, c3, c4⟩ := c
        exact ⟨i, j, -1, _, by rw [den_int.mp r1, den_int.mp r2, den_int.mp r3], RgC.neg (by omega) (by omega) (by omega) (by omega), q.here hr _ jrel_down⟩
      · exact q.elim
    · exact q.elim
end
end NR

set_option Elab.async false
set_option linter.all false
set_option maxRecDepth 100000
/-! Lists compared by < -/
namespace NR
open PySem PySem.Spec PyProof.Rows L2
def rLtL (K : PySem.W.Frag) : R2 := fun x y H Q => ∃ d e, Dp K H x d ∧ Dp K H y e ∧ PySem.W.alike d e = true ∧ d ≠ .none ∧ d.depth ≤ 50 ∧ Q (.bl (PySem.W.dataLt d e)) H
theorem op_ltL {X : Cx} (hu : X.A.units + 64 < cLine) : OpR X (compareOp .Lt) (rLtL X.K) := by
  intro pins s σ H x y v u Q I rx ry h
  obtain ⟨d, e, hd, he, al, dn, dd, q⟩ := h
  obtain ⟨as, r1⟩ := Dp.reads I d x v hd rx
  obtain ⟨bs, r2⟩ := Dp.reads I e y u he ry
  exact PySem.W.lt_data r1 r2 al dn (by omega) ⟨.bl _, H, I, rfl, q⟩
def dLtL : D → D → IH → R D := fun x y h => match D.py h 50 x, D.py h 50 y with
  | some (.list a), some (.list b) => if PySem.W.alike (.list a) (.list b) = true then .ok (.bl (PySem.W.dataLt (.list a) (.list b))) h else .no
  | _, _ => .no
theorem dLtL_ok {X : Cx} {G : Cf} (hK : X.K = G.K) : OpS G (rLtL X.K) dLtL := by
  intro et H h x y v w W Q rx ry R p
  unfold dLtL at p
  split at p
  · rename_i d1 d2 e1 e2
    split at p
    · rename_i al
      obtain ⟨a1, a2, a3⟩ := py_ok R 50 x v _ e1 rx
      obtain ⟨b1, b2, b3⟩ := py_ok R 50 y w _ e2 ry
      rw [hK]
      exact ⟨_, _, a1, b1, al, by simp, a3, p.here R _ (by simp)⟩
    · exact p.elim
  · exact p.elim
theorem lt_toks : ∀ (ns ms : List Int), PyProof.Rows.lexLt PyProof.Rows.itemOrd (PySem.W.keyToksAll (ns.map PyData.int)) (PySem.W.keyToksAll (ms.map PyData.int)) = HT.lexLt ns ms
  | [], [] => rfl
  | [], m :: ms => rfl
  | n :: ns, [] => rfl
  | n :: ns, m :: ms => by
    rw [List.map_cons, List.map_cons, PySem.W.keyToksAll, PySem.W.keyToksAll, PyProof.Rows.lex_self, PySem.W.keyToks, PySem.W.keyToks]
    show PyProof.Rows.lexLt PyProof.Rows.itemOrd (.inl n :: _) (.inl m :: _) = _
    unfold HT.lexLt
    by_cases e : n = m
    · subst e
      rw [PyProof.Rows.lex_self, if_pos rfl]
      exact lt_toks ns ms
    · rw [if_neg e]
      exact PyProof.Rows.lex_diff (O := PyProof.Rows.itemOrd) (x := Sum.inl n) (y := Sum.inl m) (by intro z; injection z with z; exact e z)
theorem alike_ints : ∀ (ns ms : List Int), PySem.W.alikeAll (ns.map PyData.int) (ms.map PyData.int) = true
  | [], _ => by simp [PySem.W.alikeAll]
  | n :: ns, [] => by simp [PySem.W.alikeAll]
  | n :: ns, m :: ms => by simp [PySem.W.alikeAll, PySem.W.alike, alike_ints ns ms]
theorem py_ints {h : IH} {k : Nat} : ∀ (ns : List Int), allM (D.py h (k + 1)) (ns.map D.int) = some (ns.map PyData.int)
  | [] => rfl
  | n :: ns => by
    rw [List.map_cons, allM, py_ints ns]
    rfl
theorem dLtL_ints {ns ms : List Int} {h : IH} : dLtL (.fl (ns.map D.int)) (.fl (ms.map D.int)) h = .ok (.bl (HT.lexLt ns ms)) h := by
  have e1 : ∀ xs : List Int, D.py h 50 (.fl (xs.map D.int)) = some (.list (xs.map PyData.int)) := fun xs => by
    show (allM (D.py h 49) (xs.map D.int)).map PyData.list = _
    rw [py_ints (k := 48)]
    rfl
  unfold dLtL
  rw [e1, e1]
  dsimp only
  have al : PySem.W.alike (.list (ns.map PyData.int)) (.list (ms.map PyData.int)) = true := by
    unfold PySem.W.alike
    exact alike_ints ns ms
  rw [if_pos al]
  unfold PySem.W.dataLt
  rw [PySem.W.keyToks, PySem.W.keyToks, lt_toks]
end NR

set_option Elab.async false
set_option linter.all false
set_option maxRecDepth 100000
/-! rfind and split of one sign; the place of a datum in a list. -/
namespace NR
open PySem PySem.Spec PyProof.Rows L2
def lstI (c : Nat) : List Nat → Option Nat
  | [] => none
  | d :: s => match lstI c s with
    | some i => some (i + 1)
    | none => if d = c then some 0 else none
theorem lstI_none {c : Nat} : ∀ {s : List Nat}, lstI c s = none ↔ ∀ k : Nat, s[k]? ≠ some c
  | [] => by simp [lstI]
  | d :: s => by
    unfold lstI
    constructor
    · intro h k
      cases e : lstI c s with
      | some i => rw [e] at h; cases h
      | none =>
        rw [e] at h
        by_cases q : d = c
        · simp [q] at h
        · cases k with
          | zero => simpa using q
          | succ k => simpa using lstI_none.mp e k
    · intro h
      have : lstI c s = none := lstI_none.mpr fun k => by simpa using h (k + 1)
      rw [this]
      have := h 0
      simp at this
      simp [this]
theorem lstI_some {c : Nat} : ∀ {s : List Nat} {i : Nat}, s[i]? = some c → (∀ k : Nat, i < k → s[k]? ≠ some c) → lstI c s = some i
  | [], i, h, _ => by simp at h
  | d :: s, 0, h, n => by
    have : lstI c s = none := lstI_none.mpr fun k => by simpa using n (k + 1) (by omega)
    unfold lstI
    rw [this]
    simp at h
    simp [h]
  | d :: s, i + 1, h, n => by
    have := lstI_some (s := s) (i := i) (by simpa using h) fun k hk => by simpa using n (k + 1) (by omega)
    unfold lstI
    rw [this]
def rfI (c : Nat) (s : List Nat) : Int := match lstI c s with
  | some i => (i : Int)
  | none => -1
open Builtin.Str StrLaws in
theorem rfind_one (s : List Nat) (c : Nat) : Txt.rfind (strV s) (strV [c]) = rfI c s := by
  have at_ : ∀ i, At (strV s) (strV [c]) (strV s).length i ↔ s[i]? = some c := fun i => by
    have := subAt_one (strV s) c i
    simpa [strV, At] using this
  unfold Txt.rfind rfI
  rcases last_spec (strV s) (strV [c]) with ⟨h1, h2⟩ | ⟨i, h1, h2, h3⟩
  · rw [h1, lstI_none.mpr fun k z => h2 k ((at_ k).mpr z)]
  · rw [h1, lstI_some ((at_ i).mp h2) fun k hk z => h3 k hk ((at_ k).mpr z)]
/-- the parts between -/
def spl1 (c : Nat) : List Nat → List (List Nat)
  | [] => [[]]
  | d :: s => if d = c then [] :: spl1 c s else match spl1 c s with
    | w :: r => (d :: w) :: r
    | [] => [[d]]
theorem spl1_ne (c : Nat) : ∀ s, ∃ w r, spl1 c s = w :: r
  | [] => ⟨[], [], rfl⟩
  | d :: s => by
    obtain ⟨w, r, e⟩ := spl1_ne c s
    unfold spl1
    rw [e]
    by_cases q : d = c
    · exact ⟨[], w :: r, by simp [q]⟩
    · exact ⟨d :: w, r, by simp [q]⟩
def fRfind : D → List D → IH → R D
  | .str s, [.str [c]], h => .ok (.int (rfI c s)) h
  | _, _, _ => .no
def fSplit : D → List D → IH → R D
  | .str s, [.str [c]], h => if c < 256 ∧ s.length ≤ 1000000 then .ok (.ref h.length) (h ++ [.lst ((spl1 c s).map D.str)]) else .no
  | _, _, _ => .no
def fIndexD : D → List D → IH → R D
  | x, [y], h => match D.py h 50 x, D.py h 49 y with
    | some (.list ds), some d => if SeqAt.shaped (.list ds) = true ∧ SeqAt.shaped d = true then (match ds.findIdx? (fun z => PyData.eqv z d) with
      | some j => .ok (.int (j : Nat)) h
      | none => .no) else .no
    | _, _ => .no
  | _, _, _ => .no
theorem spl_spl1 (c : Nat) : ∀ (s acc : List Nat), TL.spl [c] 0 acc s = match spl1 c s with
    | w :: r => (acc ++ w) :: r
    | [] => [acc]
  | [], acc => by simp [TL.spl, spl1]
  | d :: s, acc => by
    obtain ⟨w, r, e⟩ := spl1_ne c s
    unfold TL.spl spl1
    have pe : TL.pre [c] (d :: s) = decide (d = c) := by
      unfold TL.pre
      by_cases q : d = c <;> simp [q]
    rw [pe]
    by_cases q : d = c
    · rw [if_pos (by simpa using q), if_pos q]
      show acc :: TL.spl [c] 0 [] s = _
      rw [spl_spl1 c s [], e]
      simp
    · rw [if_neg (by simpa using q), if_neg q, spl_spl1 c s (acc ++ [d]), e]
      simp
theorem split_one (s : List Nat) (c : Nat) (hc : c < 256) : Txt.split (strV s) (strV [c]) = (spl1 c s).map strV := by
  apply TL.map_tl_inj
  rw [TL.split_spl (strV s) (strV [c]) (by simp [TL.tl, strV]) (TL.kind_ok (by simp [strV, hc]))]
  rw [List.map_map]
  have e1 : TL.tl (strV [c]) = [c] := rfl
  have e2 : TL.tl (strV s) = s := rfl
  rw [e1, e2, spl_spl1]
  obtain ⟨w, r, e⟩ := spl1_ne c s
  rw [e]
  have : (TL.tl ∘ strV) = id := by funext l; rfl
  rw [this, List.map_id]
  rfl
theorem units65 {k : Nat} {A : Around} (r : Room k A) : A.units + 65 < cLine := by have := r.un; have := r.units; unfold cLine at *; omega
section
variable {G : Cf}
theorem fRfind_ok : MethS G (fun x xs H Q => ∃ a b, x = .str a ∧ xs = [.str b] ∧ Q (.int (Txt.rfind a b)) H) fRfind := by
  intro et H h x v xs vs W Q rx rv R p
  unfold fRfind at p
  split at p
  · obtain ⟨w, rfl, r⟩ := list1 rv
    exact ⟨_, _, den_str.mp rx, by rw [den_str.mp r], p.here R _ (by rw [rfind_one]; simp)⟩
  · exact p.elim
theorem fSplit_ok : MethS G (fun x xs H Q => ∃ a b, x = .str a ∧ xs = [.str b] ∧ (b.length == 0) = false ∧ a.length + 2 ≤ sizeLine ∧ rNewStrs (Txt.split a b) H Q) fSplit := by
  intro et H h x v xs vs W Q rx rv R p
  unfold fSplit at p
  split at p
  · rename_i s c
    split at p
    · rename_i q
      obtain ⟨w, rfl, r⟩ := list1 rv
      refine ⟨_, _, den_str.mp rx, by rw [den_str.mp r], rfl, ?_, ?_⟩
      · rw [strV_length, sizeLine_eq]; omega
      · rw [split_one s c q.1]
        exact fun a ha => p.newL R DenL.ofStrs a ha
    · exact p.elim
  · exact p.elim
theorem fIndexD_ok : MethS G (rIndexD G.K) fIndexD := by
  intro et H h x v xs vs W Q rx rv R p
  unfold fIndexD at p
  split at p
  · rename_i y
    split at p
    · rename_i d1 d2 e1 e2
      split at p
      · rename_i q
        split at p
        · rename_i j ej
          obtain ⟨w, rfl, r⟩ := list1 rv
          obtain ⟨a1, a2, a3⟩ := py_ok R 50 x v _ e1 rx
          obtain ⟨b1, b2, b3⟩ := py_ok R 49 y w _ e2 r
          rw [List.findIdx?_eq_some_iff_getElem] at ej
          obtain ⟨hj, h1, h2⟩ := ej
          cases a1 with
          | lst hs ha =>
            exact ⟨_, w, d2, d1, j, d1[j], rfl, rfl, .lst hs ha, b1, q.1, q.2, List.getElem?_eq_getElem hj, h1, fun m z' hm hz => by
              obtain ⟨hm', ez⟩ := List.getElem?_eq_some_iff.mp hz
              subst ez
              simpa using h2 m hm, p.here R _ (by simp)⟩
        · exact p.elim
      · exact p.elim
    · exact p.elim
  · exact p.elim
end
theorem mt_w {X : Cx} {e : Expr} {w : TT} (h : PW X e w) : PT X e w := h.pt
section
open PySem.AutoSeq1 (wpAny_loadPart' sub_tuple_tuple sub_list_list sub_tuple_list sub_list_tuple idx_int)
open PySem.MeetsSeq PySem.MeetsSeq2 PySem.MeetsSeq3
theorem ext_tup (l b : Addr) (xs ys : Array Value) (n m : Nat) (dd : Option Addr) (sl : Array (Option Value)) (h0 : ¬(!xs.isEmpty && Builtin.List.listTooLong (xs.size + ys.size)) = true) (h1 : xs.size ≤ sizeLine) (h2 : xs.size + ys.size ≤ sizeLine + 1) :
    Meets (Builtin.«list.extend» ⟨[.ref l, .ref b], []⟩) (fun _ R s => s.heap.get? l = some { cls := .type "list", dict := none, data := .seq xs n, slots := #[] } ∧ s.heap.get? b = some { cls := .type "tuple", dict := dd, data := .seq ys m, slots := sl } ∧
      R (.ok (.ret Value.none)) { s with heap := s.heap.update l (Obj.mapSeq fun x => x ++ ys), toks := s.toks }) :=
  .of_wp fun prog w A R s h => by
    obtain ⟨hp, gl, ds, tk, os⟩ := s
    obtain ⟨hl, hb, h⟩ := h
    have t1 := PySem.AutoSeq1.idx_int
    have t2 := PySem.AutoSeq1.sub_tuple_tuple
    have t3 := PySem.AutoSeq1.sub_list_list
    have t4 := PySem.AutoSeq1.sub_tuple_list
    have t5 := PySem.AutoSeq1.sub_list_tuple
    have hz' : (xs ++ ys).size ≤ sizeLine + 1 := by rw [Array.size_append]; exact h2
    wp_walk using (wpAny_updateSeq hl rfl (hz := h1) (_hz' := hz')), wpAny_loadPart' hl, wpAny_loadPart' hb
    exact ⟨_, rfl, h⟩
end
def rExtendT (K : PySem.W.Frag) : V → List V → Hp → VK → Prop := fun x vs H Q => ∃ l b xs zs, x = .ref l ∧ vs = [.ref b] ∧ H l = some (.lst xs) ∧ SqT K H b zs ∧ xs.length + zs.length ≤ sizeLine ∧ Q .non (upd H l (.lst (xs ++ zs)))
theorem mt_extendT {X : Cx} : MtM X "list.extend" (rExtendT X.K) := by
  intro pins s σ H x vs v us Q I rx rv h
  obtain ⟨l, b, xs, zs, rfl, rfl, hH, hB, hz, q⟩ := h
  cases rx
  obtain ⟨u, rfl, ru⟩ := rv.one
  cases ru
  obtain ⟨z, its, n, r, hl, e⟩ := I.lstM hH
  obtain ⟨its2, r2, ⟨⟨cls2, dd2, data2, sl2⟩, e2, hc2, n2, hd2⟩, _⟩ := I.tuple hB
  simp only at hc2 hd2
  subst hc2 hd2
  have hl2 := r2.length
  have k1 : its.toArray.size + its2.toArray.size ≤ sizeLine := by rw [List.size_toArray, List.size_toArray]; omega
  have k2 : ¬ (!its.toArray.isEmpty && Builtin.List.listTooLong (its.toArray.size + its2.toArray.size)) = true := by
    rw [notLongL k1, Bool.and_false]
    simp
  refine call_meets F.slot_list_extend ⟨_, e, rfl⟩ F.entry_list_extend (F.args_list_extend_2 _ _) (ext_tup l b its.toArray its2.toArray n n2 dd2 sl2 k2 (by rw [List.size_toArray]; omega) (by omega)) ⟨e, e2, ?_⟩
  refine ⟨.non, _, I.lset (its' := its ++ its2) hH e (by simp) (r.append r2) ?_, rfl, q⟩
  rw [List.length_append]
  omega
def fExtendT : D → List D → IH → R D
  | .ref n, [.tup ys], h => match h[n]? with
    | some (.lst xs) => if xs.length + ys.length ≤ 10000000 then .ok .non (h.set n (.lst (xs ++ ys))) else .no
    | _ => .no
  | _, _, _ => .no
theorem fExtendT_ok {G : Cf} : MethS G (rExtendT G.K) fExtendT := by
  intro et H h x v xs vs W Q rx rv R p
  unfold fExtendT at p
  split at p
  · split at p
    · split at p
      · rename_i n ys _ xs' hx c
        obtain ⟨w, rfl, h1⟩ := list1 rv
        obtain ⟨a, us, h2, rfl, h3, h4⟩ := den_list R hx rx
        obtain ⟨b, ws, rfl, k3, k4⟩ := den_tup.mp h1
        refine ⟨a, b, us, ws, rfl, rfl, h3, k3.sq, sz (by rw [h4.len, k4.len]; exact c), ?_⟩
        have ex : Ext H (upd H a (.lst (us ++ ws))) := Ext.mut h3 True.intro
        exact p et _ List.prefix_rfl ex (R.set hx h2 rfl h3 True.intro ⟨_, upd_same, (h4.app k4).mono List.prefix_rfl ex⟩) _ (by simp)
      · exact p.elim
    · exact p.elim
  · exact p.elim
end NR

set_option Elab.async false
set_option linter.all false
set_option maxRecDepth 100000
set_option maxHeartbeats 4000000
namespace NR
open PySem PySem.Spec PyProof.Rows L2
/-! ### isinstance of several -/
def isTs (h : IH) (x : D) : List String → Option Bool
  | [] => some false
  | T :: r => match isT T h x with
    | some true => some true
    | some false => isTs h x r
    | none => none
def mIsT (Ts : List String) (m : ME) : ME := fun env h => (m env h).bind fun x h1 => match isTs h1 x Ts with
  | some b => .ok (.bl b) h1
  | none => .no
theorem tyK_ok {G : Cf} {et : List Addr} {H : Hp} {h : IH} (R : HRel G et h H) {x : D} {v : V} (r : Den G et H x v) : (∃ t, TyX G.K H v t ∧ ∀ (T : String) (b : Bool), isT T h x = some b → PySem.W.kitOne G.K t (.type T) = some b) ∨ ∀ T, isT T h x = none := by
  cases x with
  | non => rw [den_non.mp r]; exact .inl ⟨_, .base .non, fun _ _ e => kit_ty e⟩
  | bl _ => rw [den_bl.mp r]; exact .inl ⟨_, .base (.bl _), fun _ _ e => kit_ty e⟩
  | int _ => rw [den_int.mp r]; exact .inl ⟨_, .base (.int _), fun _ _ e => kit_ty e⟩
  | str _ => rw [den_str.mp r]; exact .inl ⟨_, .base (.str _), fun _ _ e => kit_ty e⟩
  | tup l =>
    obtain ⟨a, vs, rfl, h1, _⟩ := den_tup.mp r
    exact .inl ⟨_, sqT_ty (TpT.sq h1), fun _ _ e => kit_ty e⟩
  | ref n =>
    obtain ⟨a, h1, rfl⟩ := den_ref.mp r
    obtain ⟨c, hc, ok⟩ := R.cellAt h1
    cases c with
    | lst xs =>
      obtain ⟨vs, h2, _⟩ := ok
      exact .inl ⟨_, .base (.lst h2), fun T b e => kit_ty (by simpa only [isT, hc] using e)⟩
    | frz xs =>
      obtain ⟨vs, h2, _⟩ := ok
      exact .inl ⟨_, frzL_ty h2, fun T b e => kit_ty (by simpa only [isT, hc] using e)⟩
    | dk xs =>
      obtain ⟨vs, h2, _⟩ := ok
      exact .inl ⟨_, .base (.dK h2), fun T b e => kit_ty (by simpa only [isT, hc] using e)⟩
    | dt xs => exact .inr fun T => by simp only [isT, hc]
    | ins c fs => exact .inr fun T => by simp only [isT, hc]
  | fl l =>
    obtain ⟨a, vs, rfl, h1, _⟩ := den_fl.mp r
    exact .inl ⟨_, frzL_ty (K := G.K) h1.frz, fun _ _ e => kit_ty e⟩
  | fd ks l =>
    obtain ⟨a, ws, rfl, ⟨o, h1⟩, _⟩ := den_fd.mp r
    exact .inl ⟨_, .fDict h1, fun _ _ e => kit_ty e⟩
  | exc a => exact .inr fun T => rfl
theorem kits_of {K : PySem.W.Frag} {h : IH} {x : D} {t : Value} (k : ∀ (T : String) (b : Bool), isT T h x = some b → PySem.W.kitOne K t (.type T) = some b) : ∀ {Ts : List String} {b : Bool}, isTs h x Ts = some b → PySem.W.kitAny K t (Ts.map Value.type) = some b
  | [], b, e => by rw [← e]; rfl
  | T :: r, b, e => by
    unfold isTs at e
    rw [List.map_cons]
    cases h1 : isT T h x with
    | none => rw [h1] at e; cases e
    | some c =>
      rw [h1] at e
      cases c with
      | true => cases e; exact kitAny_cons (k T true h1) (fun z => by cases z) (fun _ => rfl)
      | false => exact kitAny_cons (k T false h1) (fun _ => kits_of k e) (fun z => by cases z)
inductive TNs (X : Cx) : List String → List Expr → Prop
  | nil : TNs X [] []
  | cons {y : Str} {T : String} {Ts : List String} {es : List Expr} {p : Pos} (hg : Gl X y) (hm : X.mg y = none) (hv : bootBuiltins y = some (.type T)) (hn : y ≠ "__name__") (hd : (y == ("__debug__" : Str)) = false) (h : TNs X Ts es) : TNs X (T :: Ts) (.Name y p :: es)
theorem TNs.pa {X : Cx} : ∀ {Ts : List String} {es : List Expr}, TNs X Ts es → PA X es (fun _ H Q => Q (Ts.map V.ty) H)
  | [], _, .nil => pa_nil
  | T :: Ts, _, .cons (y := y) (es := es) (p := p) hg hm hv hn hd h => pa_cons (pe_bltn (v := .ty T) hg hm hv rfl hn hd) h.pa rfl
theorem paired_tys : ∀ Ts : List String, Paired ClsV (Ts.map V.ty) (Ts.map Value.type)
  | [] => .nil
  | T :: Ts => .cons (.ty T) (paired_tys Ts)
theorem me_isT {X : Cx} {G : Cf} {W : WX} {a : Expr} {ma : ME} {pos p p2 : Pos} {T : String} {Ts : List String} {es : List Expr} {k : Nat} (hK : X.K = G.K) (ha : PE X a (tE G W ma)) (hm : X.mg "isinstance" = none) (hy : TNs X (T :: Ts) es) (hl : (T :: Ts).length ≤ 1000 := by decide) (hv : bootBuiltins "isinstance" = some (.builtin "isinstance") := by decide +kernel) (hg : Gl X "isinstance" := by rfl)
    (hs1 : starEach [a, .Tuple es k p2] X.env = (false, eval a X.env) :: starEach [.Tuple es k p2] X.env := by rfl) (hs2 : starEach [.Tuple es k p2] X.env = (false, eval (.Tuple es k p2) X.env) :: starEach [] X.env := by rfl) (hpl : (backTo pos (starEach [.Tuple es k p2] X.env)).any (·.1) = false := by rfl) :
    PE X (.Call (.Name "isinstance" p) [a, .Tuple es k p2] [] pos) (tE G W (mIsT (T :: Ts) ma)) :=
  PE.imp (pe_callB call_isiT hg hm hv (pa_cons ha (pa_cons (pe_tup hy.pa) pa_nil hs2) hs1) (by decide) (by decide) hs1 hpl) fun σ H Q ⟨et, env, h, hE, hH, hP⟩ => by
    refine ⟨et, env, h, hE, hH, (Pst.of_bind hP).imp fun et1 H1 h1 x p e hr q v hv => ?_⟩
    split at q
    · rename_i b hb
      refine ⟨sz (by rw [List.length_map]; exact Nat.le_trans hl (by omega)), fun tp htp => ?_⟩
      have e1 := Ext.new (o := .tup ((T :: Ts).map V.ty)) htp
      have hv2 := hv.mono List.prefix_rfl e1
      have hr2 := hr.new (o := .tup ((T :: Ts).map V.ty)) htp
      rcases tyK_ok hr2 hv2 with ⟨t, h2, h3⟩ | h2
      · rw [hK]
        exact ⟨v, tp, _, t, _, b, rfl, upd_same, paired_tys (T :: Ts), h2, kits_of h3 hb, q et1 _ List.prefix_rfl e1 hr2 _ (by simp)⟩
      · unfold isTs at hb
        rw [h2 T] at hb
        cases hb
    · exact q.elim
/-! ### a chain of three comparisons -/
def tChain3 (r r' r2 : R2) (ta tb tc td : TE) : TE := fun σ H Q => ta σ H fun x H1 => tb σ H1 fun y H2 => r x y H2 fun z H3 => ∃ k, z = .bl k ∧ (if k = true then tc σ H3 fun w H4 => r' y w H4 fun u H5 => ∃ j, u = .bl j ∧ (if j = true then td σ H5 fun t H6 => r2 w t H6 Q else Q (.bl false) H5) else Q (.bl false) H3)
section
variable {X : Cx} {a b c d : Expr} {ta tb tc td : TE} {pos : Pos} {r r' r2 : R2}
theorem pe_chain3 {o1 o2 o3 : CmpOp} (h1 : OpR X (compareOp o1) r) (h2 : OpR X (compareOp o2) r') (h3 : OpR X (compareOp o3) r2) (ha : PE X a ta) (hb : PE X b tb) (hc : PE X c tc) (hd : PE X d td)
    (hm : lastMarks [o1, o2, o3] [b, c, d] = false := by with_unfolding_all rfl) : PE X (.Compare a [o1, o2, o3] [b, c, d] pos) (tChain3 r r' r2 ta tb tc td) := by
  refine ⟨fun pins s σ H Q I q => ?_⟩
  refine Compare_chain (thn (ha.run pins s σ H _ I q) fun v s1 ⟨x, H1, I1, r1, q1⟩ => ?_) hm
  refine chain_link (thn (hb.run pins s1 σ H1 _ I1 q1) fun u s2 ⟨y, H2, I2, rr2, q2⟩ => ?_)
  refine thn (h1 pins s2 σ H2 x y v u _ I2 r1 rr2 q2) fun z s3 ⟨zz, H3, I3, r3, k, e, q3⟩ => ?_
  subst e
  cases r3
  refine wpAny_truthy_bool ?_
  cases k with
  | false => exact ite_ff ⟨.bl false, H3, I3, rfl, q3⟩
  | true =>
    refine ite_tt ?_
    refine chain_link (thn (hc.run pins s3 σ H3 _ I3 q3) fun w s4 ⟨ww, H4, I4, r4, q4⟩ => ?_)
    refine thn (h2 pins s4 σ H4 y ww u w _ I4 rr2 r4 q4) fun z2 s5 ⟨zz2, H5, I5, r5, k2, e2, q5⟩ => ?_
    subst e2
    cases r5
    refine wpAny_truthy_bool ?_
    cases k2 with
    | false => exact ite_ff ⟨.bl false, H5, I5, rfl, q5⟩
    | true => exact ite_tt (chain_last (thn (hd.run pins s5 σ H5 _ I5 q5) fun t s6 ⟨tt, H6, I6, r6, q6⟩ => h3 pins s6 σ H6 ww tt w t Q I6 r4 r6 q6))
end
def mChain3 (f g f3 : D → D → IH → R D) (a b c d : ME) : ME := fun env h => (a env h).bind fun x h1 => (b env h1).bind fun y h2 => (f x y h2).bind fun z h3 => match z with
  | .bl true => (c env h3).bind fun w h4 => (g y w h4).bind fun u h5 => match u with
    | .bl true => (d env h5).bind fun t h6 => f3 w t h6
    | .bl false => .ok (.bl false) h5
    | _ => .no
  | .bl false => .ok (.bl false) h3
  | _ => .no
section
variable {X : Cx} {G : Cf} {W : WX} {a b c d e : Expr} {ma mb mc md : ME} {pos : Pos} {r r' r2 : R2} {f g f3 : D → D → IH → R D}
theorem me_chain3 {o1 o2 o3 : CmpOp} (ho : OpR X (compareOp o1) r) (hs : OpS G r f) (ho' : OpR X (compareOp o2) r') (hs' : OpS G r' g) (ho2 : OpR X (compareOp o3) r2) (hs2 : OpS G r2 f3) (ha : PE X a (tE G W ma)) (hb : PE X b (tE G W mb)) (hc : PE X c (tE G W mc)) (hd : PE X d (tE G W md)) (hm : lastMarks [o1, o2, o3] [b, c, d] = false := by rfl) :
    PE X (.Compare a [o1, o2, o3] [b, c, d] pos) (tE G W (mChain3 f g f3 ma mb mc md)) := PE.imp (pe_chain3 ho ho' ho2 ha hb hc hd hm) fun σ H Q ⟨et, env, h, hE, hH, hP⟩ => by
  refine ⟨et, env, h, hE, hH, (Pst.of_bind hP).imp fun et1 H1 h1 x p e hr q v hv => ?_⟩
  refine ⟨et1, env, h1, hE.mono p e, hr, (Pst.of_bind q).imp fun et2 H2 h2 y p2 e2 hr2 q2 w hw => ?_⟩
  refine hs et2 H2 h2 x y v w _ _ (hv.mono p2 e2) hw hr2 ((Pst.of_bind q2).imp fun et3 H3 h3 z p3 e3 hr3 q3 vz hz => ?_)
  cases z with
  | bl k =>
    refine ⟨k, den_bl.mp hz, ?_⟩
    cases k with
    | true =>
      rw [if_pos rfl]
      refine ⟨et3, env, h3, ((hE.mono p e).mono p2 e2).mono p3 e3, hr3, (Pst.of_bind q3).imp fun et4 H4 h4 u p4 e4 hr4 q4 vu hu => ?_⟩
      refine hs' et4 H4 h4 y u w vu _ _ ((hw.mono p3 e3).mono p4 e4) hu hr4 ((Pst.of_bind q4).imp fun et5 H5 h5 z2 p5 e5 hr5 q5 vz2 hz2 => ?_)
      cases z2 with
      | bl k2 =>
        refine ⟨k2, den_bl.mp hz2, ?_⟩
        cases k2 with
        | true =>
          rw [if_pos rfl]
          refine ⟨et5, env, h5, ((((hE.mono p e).mono p2 e2).mono p3 e3).mono p4 e4).mono p5 e5, hr5, (Pst.of_bind q5).imp fun et6 H6 h6 t p6 e6 hr6 q6 vt ht => ?_⟩
          exact hs2 et6 H6 h6 u t vu vt _ Q ((hu.mono p5 e5).mono p6 e6) ht hr6 q6
        | false =>
          rw [if_neg Bool.false_ne_true]
          exact q5.here hr5 _ (by simp)
      | _ => exact q5.elim
    | false =>
      rw [if_neg Bool.false_ne_true]
      exact q3.here hr3 _ (by simp)
  | _ => exact q3.elim
theorem mt_chain3 {o1 o2 o3 : CmpOp} (ho : OpR X (compareOp o1) r) (hs : OpS G r f) (ho' : OpR X (compareOp o2) r') (hs' : OpS G r' g) (ho2 : OpR X (compareOp o3) r2) (hs2 : OpS G r2 f3) (ha : PE X a (tE G W ma)) (hb : PE X b (tE G W mb)) (hc : PE X c (tE G W mc)) (hd : PE X d (tE G W md)) (hm : lastMarks [o1, o2, o3] [b, c, d] = false := by rfl)
    (hv : ∀ whole, isTrue (.Compare a [o1, o2, o3] [b, c, d] pos) X.env whole = (do let v ← whole; standAt pos; holding [v] (truthy v)) := by intro _; rfl) (hK : X.K = G.K) :
    PT X (.Compare a [o1, o2, o3] [b, c, d] pos) (tT G W (mTr (mChain3 f g f3 ma mb mc md))) := mt_val hK (me_chain3 ho hs ho' hs' ho2 hs2 ha hb hc hd hm) hv
end
/-! ### reversed ranges -/
def iRevR1 (m : MA) : MI := fun env h => (m env h).bind fun xs h1 => match xs with
  | [.int j] => if -10000000 ≤ j ∧ j ≤ 10000000 then .ok (.st (intsDown (j - 1) j.toNat)) h1 else .no
  | _ => .no
def iRevR2 (m : MA) : MI := fun env h => (m env h).bind fun xs h1 => match xs with
  | [.int i, .int j] => if -10000000 ≤ i ∧ i ≤ 10000000 ∧ -10000000 ≤ j ∧ j ≤ 10000000 then .ok (.st (intsDown (j - 1) (j - i).toNat)) h1 else .no
  | _ => .no
section
variable {X : Cx} {G : Cf} {W : WX} {e tg a b : Expr} {me ma mb : ME} {pos p p2 q : Pos}
theorem jrel_downE {et : List Addr} {H : Hp} {hi hi' : Int} {n : Nat} (e : 0 < n → hi = hi') : JRel G et H (.st (intsDown hi n)) (Itc hi' (-1) n) := by
  cases n with
  | zero =>
    refine jrel_st fun et1 H1 h1 p ex R i => ?_
    rw [show (intsDown hi 0)[i]? = none from rfl]
    exact Nat.zero_le i
  | succ n => rw [e (by omega)]; exact jrel_down
theorem mi_revR1 (ha : PE X a (tE G W ma)) (hm : X.mg "reversed" = none) (hm2 : X.mg "range" = none) (hg : Gl X "reversed" := by rfl) (hg2 : Gl X "range" := by rfl) (hs : starEach [.Call (.Name "range" p2) [a] [] q] X.env = (false, eval (.Call (.Name "range" p2) [a] [] q) X.env) :: starEach [] X.env := by rfl) (hs3 : starEach [a] X.env = (false, eval a X.env) :: starEach [] X.env := by rfl) :
    PI X tg (.Call (.Name "reversed" p) [.Call (.Name "range" p2) [a] [] q] [] pos) (tI G W (iRevR1 (mCons ma mNil))) :=
  PI.imp (pi_revR hg hm (prg_1 hg2 hm2 ha hs3) hs) fun σ H K ⟨et, env, h, hE, hH, hP⟩ => by
    refine ⟨et, env, h, hE, hH, (Pst.of_bind (Pst.of_bind hP)).imp fun et1 H1 h1 x p e hr q v hv => ?_⟩
    simp only [mNil, R.bind] at q
    have q := Pst.here hr q
    cases x with
    | int j =>
      dsimp only at q
      split at q
      · rename_i c
        refine ⟨j, den_int.mp hv, by omega, by omega, by omega, by omega, q.here hr _ ?_⟩
        rw [show (j - 0).toNat = j.toNat by omega]
        exact jrel_downE fun h => by omega
      · exact q.elim
    | _ => exact q.elim
end
/-! ### max, min of a tuple -/
section
variable {prog : Program} {w : World} {A : Around} {E : Value → Shared → Prop} {s : Shared} {l : Addr} {its : List Value} {ns : List Int}
theorem tup_kept {h' : Heap} (hk : ∀ b o, b ∉ [s.heap.objs.size] → (s.heap.push { cls := .type "tuple_iterator", data := .fields #[.ref l, .int 0 0] }).get? b = some o → h'.get? b = some o) (b : Addr) (o : Obj) (e : s.heap.get? b = some o) : h'.get? b = some o := by
  refine hk b o (fun hm => ?_) (Heap.get?_push_of_some _ e)
  have := List.mem_singleton.mp hm
  subst this
  exact Nat.lt_irrefl _ (Heap.lt_size e)
theorem tup_fp (lt : l < s.heap.objs.size) (o : Obj) : ∀ b ∈ [s.heap.objs.size, l], b < (s.heap.push o).objs.size := fun b hb => by
  rw [Heap.size_push]
  rcases List.mem_cons.mp hb with rfl | hb
  · exact Nat.lt_succ_self _
  · rw [List.mem_singleton.mp hb]
    exact Nat.lt_succ_of_lt lt
theorem tup_val (hi : IntsAre its ns) (i : Nat) (v : Value) (h : its.toArray[i]? = some v) : ∃ t, v = .int (ns.getD i 0) t := PyProof.Rows.IntsAre.int_at hi i v (by simpa using h)
theorem tup_best {k : Nat} {M : Int} (hk : k < ns.length) (e : ns.getD k 0 = M) : M ∈ ns := by
  rw [List.getD_eq_getElem?_getD, List.getElem?_eq_getElem hk] at e
  rw [← e]
  exact List.getElem_mem hk
theorem max_tup {Q : Value → Shared → Prop} (hh : A.handled = none) (hl : s.heap.IsTuple l its.toArray) (hi : IntsAre its ns) (hne : 0 < ns.length)
    (h : ∀ h' tk M t', (∀ b o, s.heap.get? b = some o → h'.get? b = some o) → M ∈ ns → (∀ a, a ∈ ns → a ≤ M) → Q (.int M t') { s with heap := h', toks := tk }) : wpAny (model prog w) A (call (.builtin "max") [.ref l]) Q E s := by
  have lt : l < s.heap.objs.size := by obtain ⟨_, e, _⟩ := hl; exact Heap.lt_size e
  have hz : its.length = ns.length := IntsAre.length hi
  refine call_max_walk (wpAny_pyIter_tuple hl ?_)
  refine ⟨_, _, _, _, _, _, _, rfl, Walks.tuple (A := A.in1) hh _ l (Nat.ne_of_lt lt) its.toArray, ⟨⟨_, Heap.get?_push_size _ rfl, rfl, rfl⟩, hl.push _⟩, tup_fp lt _, by simpa [hz] using hne, CmpOf.ints_gt (fun i => ns.getD i 0) (tup_val hi), fun v h' tk hP hk => ?_⟩
  obtain ⟨h1, h2⟩ := argBest_gt (fun i => ns.getD i 0) (its.toArray.size - 1)
  obtain ⟨t, rfl⟩ := tup_val hi _ _ hP
  rw [List.size_toArray, hz] at h1 h2
  refine h h' tk _ t (tup_kept hk) (tup_best (by rw [List.size_toArray, hz]; omega) rfl) fun a ha => ?_
  obtain ⟨j, hj⟩ := List.mem_iff_getElem?.mp ha
  have hj2 := (List.getElem?_eq_some_iff.mp hj).1
  have := h2 j (by omega)
  simp only [List.getD_eq_getElem?_getD, hj, Option.getD_some] at this
  simpa [List.getD_eq_getElem?_getD, hz] using this
theorem min_tup {Q : Value → Shared → Prop} (hh : A.handled = none) (hl : s.heap.IsTuple l its.toArray) (hi : IntsAre its ns) (hne : 0 < ns.length)
    (h : ∀ h' tk M t', (∀ b o, s.heap.get? b = some o → h'.get? b = some o) → M ∈ ns → (∀ a, a ∈ ns → M ≤ a) → Q (.int M t') { s with heap := h', toks := tk }) : wpAny (model prog w) A (call (.builtin "min") [.ref l]) Q E s := by
  have lt : l < s.heap.objs.size := by obtain ⟨_, e, _⟩ := hl; exact Heap.lt_size e
  have hz : its.length = ns.length := IntsAre.length hi
  refine call_min_walk (wpAny_pyIter_tuple hl ?_)
  refine ⟨_, _, _, _, _, _, _, rfl, Walks.tuple (A := A.in1) hh _ l (Nat.ne_of_lt lt) its.toArray, ⟨⟨_, Heap.get?_push_size _ rfl, rfl, rfl⟩, hl.push _⟩, tup_fp lt _, by simpa [hz] using hne, CmpOf.ints_lt (fun i => ns.getD i 0) (tup_val hi), fun v h' tk hP hk => ?_⟩
  obtain ⟨h1, h2⟩ := argBest_lt (fun i => ns.getD i 0) (its.toArray.size - 1)
  obtain ⟨t, rfl⟩ := tup_val hi _ _ hP
  rw [List.size_toArray, hz] at h1 h2
  refine h h' tk _ t (tup_kept hk) (tup_best (by rw [List.size_toArray, hz]; omega) rfl) fun a ha => ?_
  obtain ⟨j, hj⟩ := List.mem_iff_getElem?.mp ha
  have hj2 := (List.getElem?_eq_some_iff.mp hj).1
  have := h2 j (by omega)
  simp only [List.getD_eq_getElem?_getD, hj, Option.getD_some] at this
  simpa [List.getD_eq_getElem?_getD, hz] using this
end
def rMaxT (K : PySem.W.Frag) : List V → Hp → VK → Prop := fun vs H Q => ∃ (a : Addr) (ns : List Int), vs = [V.ref a] ∧ (SqL K H a (ns.map V.int) ∨ SqT K H a (ns.map V.int)) ∧ 0 < ns.length ∧ ∀ m, m ∈ ns → (∀ y, y ∈ ns → y ≤ m) → Q (.int m) H
def rMinT (K : PySem.W.Frag) : List V → Hp → VK → Prop := fun vs H Q => ∃ (a : Addr) (ns : List Int), vs = [V.ref a] ∧ (SqL K H a (ns.map V.int) ∨ SqT K H a (ns.map V.int)) ∧ 0 < ns.length ∧ ∀ m, m ∈ ns → (∀ y, y ∈ ns → m ≤ y) → Q (.int m) H
section
variable {X : Cx} {G : Cf}
theorem cr_maxT (hc : X.calm = true) : CallR X (.builtin "max") (rMaxT X.K) := by
  intro pins s σ H vs us Q I r h
  obtain ⟨a, ns, rfl, hs | hs, hne, q⟩ := h
  · exact cr_max hc pins s σ H _ us Q I r ⟨a, ns, rfl, hs, hne, q⟩
  · obtain ⟨its, rv, ht, _⟩ := I.tuple hs
    rw [Vals.ref1 r]
    exact max_tup (I.ok.hd hc) ht rv.ints hne fun h' tk m t' hk h1 h2 => ⟨.int _, H, I.kept hk, ⟨_, rfl⟩, q m h1 h2⟩
theorem cr_minT (hc : X.calm = true) : CallR X (.builtin "min") (rMinT X.K) := by
  intro pins s σ H vs us Q I r h
  obtain ⟨a, ns, rfl, hs | hs, hne, q⟩ := h
  · exact cr_min hc pins s σ H _ us Q I r ⟨a, ns, rfl, hs, hne, q⟩
  · obtain ⟨its, rv, ht, _⟩ := I.tuple hs
    rw [Vals.ref1 r]
    exact min_tup (I.ok.hd hc) ht rv.ints hne fun h' tk m t' hk h1 h2 => ⟨.int _, H, I.kept hk, ⟨_, rfl⟩, q m h1 h2⟩
def bMax1T : List D → IH → R D
  | [x], h => match (seqOf h x).bind (allM D.int?) with
    | some ns => if 0 < ns.length then .ok (.int (imax ns)) h else .no
    | none => .no
  | _, _ => .no
def bMin1T : List D → IH → R D
  | [x], h => match (seqOf h x).bind (allM D.int?) with
    | some ns => if 0 < ns.length then .ok (.int (imin ns)) h else .no
    | none => .no
  | _, _ => .no
theorem sq_ints {et : List Addr} {H : Hp} {h : IH} {x : D} {v : V} {ns : List Int} (R : HRel G et h H) (e : (seqOf h x).bind (allM D.int?) = some ns) (r : Den G et H x v) : ∃ a, v = .ref a ∧ (SqL G.K H a (ns.map V.int) ∨ SqT G.K H a (ns.map V.int)) := by
  cases hq : seqOf h x with
  | none => rw [hq] at e; cases e
  | some ds =>
    rw [hq] at e
    obtain ⟨a, vs, rfl, h1, h2⟩ := seq_ok R hq r
    have := allM_ints (ds := ds) e
    subst this
    rw [h2.ints] at h1
    exact ⟨a, rfl, h1⟩
theorem bMax1T_ok : CallS G (rMaxT G.K) bMax1T := by
  intro et H h xs vs W Q hv hr q
  unfold bMax1T at q
  split at q
  · obtain ⟨v, rfl, r⟩ := list1 hv
    split at q
    · rename_i ns e
      split at q
      · rename_i l
        obtain ⟨a, rfl, s⟩ := sq_ints hr e r
        refine ⟨a, ns, rfl, s, l, fun m m1 m2 => ?_⟩
        have em : m = imax ns := Int.le_antisymm (imax_le m1) (m2 _ (imax_mem l))
        rw [em]
        exact q.here hr _ (by simp)
      · exact q.elim
    · exact q.elim
  · exact q.elim
theorem bMin1T_ok : CallS G (rMinT G.K) bMin1T := by
  intro et H h xs vs W Q hv hr q
  unfold bMin1T at q
  split at q
  · obtain ⟨v, rfl, r⟩ := list1 hv
    split at q
    · rename_i ns e
      split at q
      · rename_i l
        obtain ⟨a, rfl, s⟩ := sq_ints hr e r
        refine ⟨a, ns, rfl, s, l, fun m m1 m2 => ?_⟩
        have em : m = imin ns := Int.le_antisymm (m2 _ (imin_mem l)) (imin_le m1)
        rw [em]
        exact q.here hr _ (by simp)
      · exact q.elim
    · exact q.elim
  · exact q.elim
end
end NR

set_option Elab.async false
set_option linter.all false
set_option maxRecDepth 100000
set_option maxHeartbeats 4000000
/-! Lists within tuples and lists, locked. -/
namespace NR
open PySem PySem.Spec PyProof.Rows L2
/-- some locks lead there -/
inductive Locks (P : Hp → Prop) : Hp → Prop
  | done {H : Hp} (h : P H) : Locks P H
  | lock {H : Hp} {a : Addr} {u : HO} (e : H a = some u) (m : Mut (some u)) (k : ∀ od, Locks P (upd H a (.frz od u))) : Locks P H
theorem Locks.bind {P Q : Hp → Prop} {H : Hp} (x : Locks P H) (k : ∀ H', P H' → Locks Q H') : Locks Q H := by
  induction x with
  | done h => exact k _ h
  | lock e m _ ih => exact .lock e m ih
theorem Locks.imp {P Q : Hp → Prop} {H : Hp} (x : Locks P H) (k : ∀ H', P H' → Q H') : Locks Q H := x.bind fun H' h => .done (k H' h)
theorem Locks.run {X : Cx} {P : Hp → Prop} {pins : List (Addr × Obj)} {σ : L2.St} {s : Shared} {H : Hp} (x : Locks P H) : Inv X pins σ H s → ∃ H', Inv X pins σ H' s ∧ P H' := by
  induction x with
  | done h => exact fun I => ⟨_, I, h⟩
  | lock e m _ ih =>
    intro I
    obtain ⟨od, I2⟩ := I.lock e m
    exact ih od I2
mutual
/-- the lists and dicts from cell number b on, locked -/
def dzD (b : Nat) : Nat → IH → D → Option (D × IH)
  | 0, _, _ => none
  | k + 1, h, .ref n => if b ≤ n then (match h[n]? with
    | some (.lst xs) => match dzL b k (h.set n (.frz xs)) xs with
      | some (ys, h1) => some (.fl ys, h1)
      | none => none
    | _ => none) else some (.ref n, h)
  | k + 1, h, .tup l => match dzL b k h l with
    | some (ys, h1) => some (.tup ys, h1)
    | none => none
  | _ + 1, h, .fl l => some (.fl l, h)
  | _ + 1, h, .fd ks l => some (.fd ks l, h)
  | _ + 1, h, .exc a => none
  | _ + 1, h, .non => some (.non, h)
  | _ + 1, h, .bl i => some (.bl i, h)
  | _ + 1, h, .int i => some (.int i, h)
  | _ + 1, h, .str i => some (.str i, h)
def dzL (b : Nat) : Nat → IH → List D → Option (List D × IH)
  | 0, _, _ => none
  | _ + 1, h, [] => some ([], h)
  | k + 1, h, d :: l => match dzD b k h d with
    | some (y, h1) => match dzL b k h1 l with
      | some (ys, h2) => some (y :: ys, h2)
      | none => none
    | none => none
end
section
variable {G : Cf} {et : List Addr}
theorem dz_ok (b : Nat) : ∀ (k : Nat), (∀ (h : IH) (H : Hp) (d d' : D) (h' : IH) (v : V), HRel G et h H → Den G et H d v → dzD b k h d = some (d', h') → Locks (fun H' => HRel G et h' H' ∧ Ext H H' ∧ Den G et H' d' v) H) ∧
    (∀ (h : IH) (H : Hp) (l l' : List D) (h' : IH) (vs : List V), HRel G et h H → DenL G et H l vs → dzL b k h l = some (l', h') → Locks (fun H' => HRel G et h' H' ∧ Ext H H' ∧ DenL G et H' l' vs) H)
  | 0 => ⟨fun _ _ _ _ _ _ _ _ e => by simp [dzD] at e, fun _ _ _ _ _ _ _ _ e => by simp [dzL] at e⟩
  | k + 1 => by
    obtain ⟨ihD, ihL⟩ := dz_ok b k
    refine ⟨fun h H d d' h' v R r e => ?_, fun h H l l' h' vs R r e => ?_⟩
    · cases d with
      | ref n =>
        unfold dzD at e
        split at e
        · split at e
          · rename_i xs hx
            split at e
            · rename_i ys h1 e1
              cases e
              obtain ⟨a, ha, rfl⟩ := den_ref.mp r
              obtain ⟨vs, k1, k2⟩ := R.cell n _ a hx ha
              refine .lock k1 True.intro fun od => ?_
              have ex : Ext H (upd H a (.frz od (.lst vs))) := Ext.mut k1 True.intro
              have hf : DenL G et (upd H a (.frz od (.lst vs))) xs vs := k2.mono List.prefix_rfl ex
              have hc : CellOk G et (upd H a (.frz od (.lst vs))) a (.frz xs) := ⟨vs, .inl ⟨od, upd_same⟩, hf⟩
              refine (ihL _ _ xs ys h' vs (R.set hx ha rfl k1 True.intro hc) hf e1).imp fun H1 ⟨R1, x1, D1⟩ => ⟨R1, ex.trans x1, ?_⟩
              exact den_fl.mpr ⟨a, vs, rfl, FrzM.ext x1 ⟨od, upd_same⟩, D1⟩
            · cases e
          · cases e
        · cases e
          exact .done ⟨R, Ext.refl H, r⟩
      | tup l =>
        unfold dzD at e
        split at e
        · rename_i ys h1 e1
          cases e
          obtain ⟨a, vs, rfl, h2, h3⟩ := den_tup.mp r
          exact (ihL h H l ys h' vs R h3 e1).imp fun H1 ⟨R1, x1, D1⟩ => ⟨R1, x1, den_tup.mpr ⟨a, vs, rfl, h2.ext x1, D1⟩⟩
        · cases e
      | exc a => simp [dzD] at e
      | fl l => simp [dzD] at e; obtain ⟨rfl, rfl⟩ := e; exact .done ⟨R, Ext.refl H, r⟩
      | fd ks l => simp [dzD] at e; obtain ⟨rfl, rfl⟩ := e; exact .done ⟨R, Ext.refl H, r⟩
      | non => simp [dzD] at e; obtain ⟨rfl, rfl⟩ := e; exact .done ⟨R, Ext.refl H, r⟩
      | bl i => simp [dzD] at e; obtain ⟨rfl, rfl⟩ := e; exact .done ⟨R, Ext.refl H, r⟩
      | int i => simp [dzD] at e; obtain ⟨rfl, rfl⟩ := e; exact .done ⟨R, Ext.refl H, r⟩
      | str i => simp [dzD] at e; obtain ⟨rfl, rfl⟩ := e; exact .done ⟨R, Ext.refl H, r⟩
    · cases l with
      | nil =>
        simp [dzL] at e
        obtain ⟨rfl, rfl⟩ := e
        exact .done ⟨R, Ext.refl H, r⟩
      | cons d l =>
        unfold dzL at e
        split at e
        · rename_i y h1 e1
          split at e
          · rename_i ys h2 e2
            cases e
            obtain ⟨v, ws, rfl, r1, r2⟩ := denL_cons.mp r
            refine (ihD h H d y h1 v R r1 e1).bind fun H1 ⟨R1, x1, D1⟩ => ?_
            refine (ihL h1 H1 l ys h' ws R1 (r2.mono List.prefix_rfl x1) e2).imp fun H2 ⟨R2, x2, D2⟩ => ⟨R2, x1.trans x2, ?_⟩
            exact denL_cons.mpr ⟨v, ws, rfl, D1.mono List.prefix_rfl x2, D2⟩
          · cases e
        · cases e
end
open Classical in
noncomputable def dzR (h : IH) (r : R D) : R D := match r with
  | .ok d h' => match dzD h.length 1000 h' d with
    | some (d', h2) => if D.lo h.length d' = true ∧ okB h.length h h2 then .ok d' (h2.take h.length) else .ok d h'
    | none => .ok d h'
  | r => r
noncomputable def mDz (m : ME) : ME := fun env h => dzR h (m env h)
theorem me_dz {X : Cx} {G : Cf} {W : WX} {e : Expr} {m : ME} (he : PE X e (tE G W m)) : PE X e (tE G W (mDz m)) := ⟨fun pins s σ H Q I ⟨et, env, h, hE, hH, hP⟩ => by
  have main : Pst G et H (m env h) (fun et' H' _ d => ∀ v, Den G et' H' d v → Locks (fun H2 => Q v H2) H') (fun c d H' => W c d σ H') := by
    have hP : Pst G et H (dzR h (m env h)) _ _ := hP
    revert hP
    cases m env h with
    | no => exact fun z => z
    | ex c d h' => exact fun z => z
    | ok d h' =>
      intro hP
      have dull : Pst G et H (.ok d h') (fun et' H' _ d => ∀ v, Den G et' H' d v → Q v H') (fun c d H' => W c d σ H') → Pst G et H (.ok d h') (fun et' H' _ d => ∀ v, Den G et' H' d v → Locks (fun H2 => Q v H2) H') (fun c d H' => W c d σ H') := fun z => z.imp fun et1 H1 h1 a p e hr q v hv => .done (q v hv)
      unfold dzR at hP
      dsimp only at hP
      split at hP
      · rename_i d' h2 e1
        split at hP
        · rename_i c
          intro et' H' p e hr v hv
          refine ((dz_ok (G := G) (et := et') h.length 1000).1 h' H' d d' h2 v hr hv e1).imp fun H2 ⟨R2, x2, D2⟩ => ?_
          have al := okB_all hH c.2
          have R3 := R2.cut p al
          rw [hH.len] at R3
          have lo := c.1
          rw [← hH.len] at lo
          exact hP et H2 List.prefix_rfl (e.trans x2) R3 v (D2.back p lo)
        · exact dull hP
      · exact dull hP
  refine thn (he.run pins s σ H _ I ⟨et, env, h, hE, hH, main⟩) fun v s1 ⟨x, H1, I1, r, q⟩ => ?_
  obtain ⟨H2, I2, q2⟩ := q.run I1
  exact ⟨x, H2, I2, r, q2⟩⟩
end NR

set_option Elab.async false
set_option linter.all false
set_option maxRecDepth 100000
/-! != of a thing and one of the same content, {} in it too -/
namespace NR
open PySem PySem.Spec PyProof.Rows L2
def flB : V → Bool
  | .non => true
  | .bl _ => true
  | .int _ => true
  | .str _ => true
  | _ => false
theorem flB_flat {v : V} (h : flB v = true) : flatB v = true := by
  cases v <;> first | rfl | cases h
def selfB : Nat → D → Bool
  | 0, _ => false
  | k + 1, d => match d with
    | .non => true
    | .bl _ => true
    | .int _ => true
    | .str _ => true
    | .tup l => l.all (selfB k)
    | .fl l => l.all (selfB k)
    | .fd ks _ => ks.isEmpty
    | _ => false
/-- of the same content, of nesting below n -/
def SelfV (K : PySem.W.Frag) (H : Hp) : Nat → V → V → Prop
  | 0 => fun _ _ => False
  | n + 1 => fun x y => (x = y ∧ flB x = true) ∨ (∃ a b xs ys, x = .ref a ∧ y = .ref b ∧ SqT K H a xs ∧ SqT K H b ys ∧ Paired (SelfV K H n) xs ys) ∨
      (∃ a b xs ys, x = .ref a ∧ y = .ref b ∧ SqL K H a xs ∧ SqL K H b ys ∧ Paired (SelfV K H n) xs ys) ∨ (∃ a b, x = .ref a ∧ y = .ref b ∧ FrzD H a [] ∧ FrzD H b [])
section
variable {X : Cx} {pins : List (Addr × Obj)} {σ : L2.St} {H : Hp} {s : Shared}
theorem paired_at {E : V → V → Prop} {F : Value → Value → Prop} (ih : ∀ x y v u, E x y → RelV x v → RelV y u → F v u) {xs ys : List V} (hp : Paired E xs ys) :
    ∀ {us ws : List Value}, Vals xs us → Vals ys ws → ∀ j (h1 : j < us.length) (h2 : j < ws.length), F us[j] ws[j] := by
  induction hp with
  | nil =>
    intro us ws r1 r2 j h1 h2
    cases r1
    exact absurd h1 (Nat.not_lt_zero j)
  | cons h _ k =>
    intro us ws r1 r2 j h1 h2
    cases r1 with
    | cons a1 b1 =>
      cases r2 with
      | cons a2 b2 =>
        cases j with
        | zero => exact ih _ _ _ _ h a1 a2
        | succ j => exact k b1 b2 j (Nat.lt_of_succ_lt_succ h1) (Nat.lt_of_succ_lt_succ h2)
/-- an empty dict, for any program -/
theorem empty_dict (I : Inv X pins σ H s) {a : Addr} (h : FrzD H a []) : (a == sysModules) = false ∧ ∀ (prog : Program) (w : World), s.heap.DictOf (mixKind prog w) a [] := by
  obtain ⟨o, h⟩ := h
  obtain ⟨hd, z, ya, va, ra, da⟩ := I.hok a _ h
  cases ra
  obtain ⟨o2, es, ep, e1, e2, e3, e4, e5, e6⟩ := da
  refine ⟨ya, fun prog w => ⟨o2, es, ep, e1, e2, e3, ?_, ?_, List.nodup_nil⟩⟩
  · have : es.toList = [] := by
      generalize es.toList = l at e5
      cases e5
      rfl
    intro x hx
    have := Array.mem_toList_iff.mpr hx
    rename_i h0
    rw [h0] at this
    cases this
  · have : es.toList = [] := by
      generalize es.toList = l at e5
      cases e5
      rfl
    rw [this]
    exact .nil
theorem sqt_refs {a b : Addr} {A : Around} {k : Bool} (h : a ≠ b → SeqAt.RcAt A s (.ref a) (.ref b) k) (hk : a = b → k = true) : SeqAt.EqAt A s (.ref a) (.ref b) k := by
  by_cases e : a = b
  · subst e
    rw [hk rfl]
    exact SeqAt.EqAt.same _
  · exact SeqAt.EqAt.of_refs e (h e)
theorem all_true (n : Nat) : ((List.range n).all fun _ => true) = true := List.all_eq_true.mpr fun _ _ => rfl
theorem self_run (I : Inv X pins σ H s) : ∀ (n : Nat) (A : Around), A.units + n < cLine → ∀ (x y : V) (v u : Value), SelfV X.K H n x y → RelV x v → RelV y u → SeqAt.EqAt A s v u true
  | 0, _, _, _, _, _, _, h, _, _ => (show False from h).elim
  | n + 1, A, hu, x, y, v, u, h, rx, ry => by
    have ih := self_run I n A.in1 (by show A.units + 1 + n < cLine; omega)
    rcases h with ⟨rfl, f⟩ | ⟨a, b, xs, ys, rfl, rfl, ha, hb, hp⟩ | ⟨a, b, xs, ys, rfl, rfl, ha, hb, hp⟩ | ⟨a, b, rfl, rfl, ha, hb⟩
    · exact eqAt_same rx ry (flB_flat f)
    · cases (show v = Value.ref a from rx)
      cases (show u = Value.ref b from ry)
      obtain ⟨us, r1, p1, _⟩ := I.tuple ha
      obtain ⟨ws, r2, p2, _⟩ := I.tuple hb
      have hsz : us.toArray.size = ws.toArray.size := by
        rw [List.size_toArray, List.size_toArray, ← r1.length, ← r2.length]
        exact Paired.length hp
      have k := SeqAt.RcAt.tuples (e := fun _ => true) p1 p2 (by omega : A.units < cLine) (fun j h1 h2 => by
        have k := paired_at (F := fun v u => SeqAt.EqAt A.in1 s v u true) ih hp r1 r2 j (by simpa using h1) (by simpa using h2)
        simpa using k)
      rw [all_true, hsz, beq_self_eq_true, Bool.true_and] at k
      exact sqt_refs (fun _ => k) fun _ => rfl
    · cases (show v = Value.ref a from rx)
      cases (show u = Value.ref b from ry)
      obtain ⟨us, r1, p1, _⟩ := I.list ha
      obtain ⟨ws, r2, p2, _⟩ := I.list hb
      have hsz : us.toArray.size = ws.toArray.size := by
        rw [List.size_toArray, List.size_toArray, ← r1.length, ← r2.length]
        exact Paired.length hp
      have k := SeqAt.RcAt.lists (e := fun _ => true) p1.isList p2.isList hsz (by omega : A.units < cLine) (fun j h1 h2 => by
        have k := paired_at (F := fun v u => SeqAt.EqAt A.in1 s v u true) ih hp r1 r2 j (by simpa using h1) (by simpa using h2)
        simpa using k)
      rw [all_true] at k
      exact sqt_refs (fun _ => k) fun _ => rfl
    · cases (show v = Value.ref a from rx)
      cases (show u = Value.ref b from ry)
      obtain ⟨y1, d1⟩ := empty_dict I ha
      obtain ⟨y2, d2⟩ := empty_dict I hb
      refine sqt_refs (fun _ => fun prog w E Q h => ?_) fun _ => rfl
      exact PySem.W.keq_eq (knd := mixKind prog w) (r := true) y1 y2 (d1 prog w) (d2 prog w) (by omega) (fun _ => .nil) h
end
def rNeS (K : PySem.W.Frag) : R2 := fun x y H Q => rNeP K x y H Q ∨ (SelfV K H 50 x y ∧ Q (.bl false) H)
section
variable {X : Cx}
theorem op_neS (hu : X.A.units + 64 < cLine) : OpR X (compareOp .NotEq) (rNeS X.K) := by
  intro pins s σ H x y v u Q I rx ry h
  rcases h with h | ⟨h, q⟩
  · exact op_neP hu pins s σ H x y v u Q I rx ry h
  · have run := self_run I 49 X.A.in1 (by show X.A.units + 1 + 49 < cLine; omega)
    rcases h with ⟨rfl, f⟩ | ⟨a, b, xs, ys, rfl, rfl, ha, hb, hp⟩ | ⟨a, b, xs, ys, rfl, rfl, ha, hb, hp⟩ | ⟨a, b, rfl, rfl, ha, hb⟩
    · cases x with
      | non =>
        cases (show v = Value.none from rx)
        cases (show u = Value.none from ry)
        exact SeqAt.RcNeAt.none_none _ _ _ _ ⟨.bl false, H, I, rfl, q⟩
      | bl b =>
        cases (show v = Value.bool b from rx)
        cases (show u = Value.bool b from ry)
        have k := SeqAt.RcNeAt.bool_bool (A := X.A) (s := s) b b
        rw [beq_self_eq_true] at k
        exact k _ _ _ _ ⟨.bl false, H, I, rfl, q⟩
      | int i =>
        obtain ⟨t, rfl⟩ := (show ∃ t, v = Value.int i t from rx)
        obtain ⟨t', rfl⟩ := (show ∃ t, u = Value.int i t from ry)
        have k := SeqAt.RcNeAt.int_int (A := X.A) (s := s) i t i t'
        rw [beq_self_eq_true] at k
        exact k _ _ _ _ ⟨.bl false, H, I, rfl, q⟩
      | str z =>
        obtain ⟨t, rfl⟩ := (show ∃ t, v = Value.str z t from rx)
        obtain ⟨t', rfl⟩ := (show ∃ t, u = Value.str z t from ry)
        have k := SeqAt.RcNeAt.str_str (A := X.A) (s := s) z t z t'
        rw [beq_self_eq_true] at k
        exact k _ _ _ _ ⟨.bl false, H, I, rfl, q⟩
      | _ => cases f
    · cases (show v = Value.ref a from rx)
      cases (show u = Value.ref b from ry)
      obtain ⟨us, r1, p1, _⟩ := I.tuple ha
      obtain ⟨ws, r2, p2, _⟩ := I.tuple hb
      have hsz : us.toArray.size = ws.toArray.size := by
        rw [List.size_toArray, List.size_toArray, ← r1.length, ← r2.length]
        exact Paired.length hp
      have k := SeqAt.RcNeAt.tuples (e := fun _ => true) p1 p2 (by omega : X.A.units < cLine) (fun j h1 h2 => by
        have k := paired_at (F := fun v u => SeqAt.EqAt X.A.in1 s v u true) run hp r1 r2 j (by simpa using h1) (by simpa using h2)
        simpa using k)
      rw [all_true, hsz, beq_self_eq_true, Bool.true_and] at k
      exact k _ _ _ _ ⟨.bl false, H, I, rfl, q⟩
    · cases (show v = Value.ref a from rx)
      cases (show u = Value.ref b from ry)
      obtain ⟨us, r1, p1, _⟩ := I.list ha
      obtain ⟨ws, r2, p2, _⟩ := I.list hb
      have hsz : us.toArray.size = ws.toArray.size := by
        rw [List.size_toArray, List.size_toArray, ← r1.length, ← r2.length]
        exact Paired.length hp
      have k := SeqAt.RcNeAt.lists (e := fun _ => true) p1.isList p2.isList hsz (by omega : X.A.units < cLine) (fun j h1 h2 => by
        have k := paired_at (F := fun v u => SeqAt.EqAt X.A.in1 s v u true) run hp r1 r2 j (by simpa using h1) (by simpa using h2)
        simpa using k)
      rw [all_true] at k
      exact k _ _ _ _ ⟨.bl false, H, I, rfl, q⟩
    · cases (show v = Value.ref a from rx)
      cases (show u = Value.ref b from ry)
      obtain ⟨y1, d1⟩ := empty_dict I ha
      obtain ⟨y2, d2⟩ := empty_dict I hb
      exact PySem.W.keq_ne (knd := mixKind X.prog X.w) (r := true) y1 y2 (d1 _ _) (d2 _ _) (by omega) (fun _ => .nil) ⟨.bl false, H, I, rfl, q⟩
end
section
variable {G : Cf} {et : List Addr} {H : Hp}
theorem self_all {n : Nat} (ih : ∀ d v u, selfB n d = true → Den G et H d v → Den G et H d u → SelfV G.K H n v u) : ∀ (l : List D) (vs us : List V), l.all (selfB n) = true → DenL G et H l vs → DenL G et H l us → Paired (SelfV G.K H n) vs us
  | [], vs, us, _, r1, r2 => by
    rw [denL_nil.mp r1, denL_nil.mp r2]
    exact .nil
  | d :: l, vs, us, h, r1, r2 => by
    obtain ⟨v, ws, rfl, a1, a2⟩ := denL_cons.mp r1
    obtain ⟨u, zs, rfl, b1, b2⟩ := denL_cons.mp r2
    rw [List.all_cons, Bool.and_eq_true] at h
    exact .cons (ih d v u h.1 a1 b1) (self_all ih l ws zs h.2 a2 b2)
theorem self_den : ∀ (n : Nat) (d : D) (v u : V), selfB n d = true → Den G et H d v → Den G et H d u → SelfV G.K H n v u
  | 0, _, _, _, h, _, _ => by cases h
  | n + 1, d, v, u, h, r1, r2 => by
    have ih := self_all (G := G) (et := et) (H := H) (self_den n)
    cases d with
    | non => rw [den_non.mp r1, den_non.mp r2]; exact .inl ⟨rfl, rfl⟩
    | bl b => rw [den_bl.mp r1, den_bl.mp r2]; exact .inl ⟨rfl, rfl⟩
    | int i => rw [den_int.mp r1, den_int.mp r2]; exact .inl ⟨rfl, rfl⟩
    | str z => rw [den_str.mp r1, den_str.mp r2]; exact .inl ⟨rfl, rfl⟩
    | tup l =>
      obtain ⟨a, vs, rfl, t1, q1⟩ := den_tup.mp r1
      obtain ⟨b, us, rfl, t2, q2⟩ := den_tup.mp r2
      exact .inr (.inl ⟨a, b, vs, us, rfl, rfl, t1.sq, t2.sq, ih l vs us h q1 q2⟩)
    | fl l =>
      obtain ⟨a, vs, rfl, t1, q1⟩ := den_fl.mp r1
      obtain ⟨b, us, rfl, t2, q2⟩ := den_fl.mp r2
      exact .inr (.inr (.inl ⟨a, b, vs, us, rfl, rfl, t1.sq, t2.sq, ih l vs us h q1 q2⟩))
    | fd ks l =>
      obtain ⟨a, ws, rfl, t1, e1, _⟩ := den_fd.mp r1
      obtain ⟨b, zs, rfl, t2, e2, _⟩ := den_fd.mp r2
      have hk : ks = [] := List.isEmpty_iff.mp h
      subst hk
      rw [List.map_nil, List.map_eq_nil_iff] at e1 e2
      subst e1 e2
      exact .inr (.inr (.inr ⟨a, b, rfl, rfl, t1, t2⟩))
    | ref n => cases h
    | exc n => cases h
end
/-- != of like content -/
noncomputable def dNeS : D → D → IH → R D := fun x y h => match dEq true x y h with
  | .no => open Classical in if x = y ∧ selfB 50 x = true then .ok (.bl false) h else .no
  | r => r
theorem dNeS_ok {X : Cx} {G : Cf} (hK : X.K = G.K) : OpS G (rNeS X.K) dNeS := by
  intro et H h x y v w W Q rx ry R p
  unfold dNeS at p
  cases hb : dEq true x y h with
  | no =>
    rw [hb] at p
    dsimp only at p
    split at p
    · rename_i c
      obtain ⟨rfl, sb⟩ := c
      rw [hK]
      exact .inr ⟨self_den 50 x v w sb rx ry, p.here R _ (by simp)⟩
    · exact p.elim
  | ok d h' =>
    rw [hb] at p
    exact .inl (dNe_ok hK et H h x y v w W Q rx ry R (by rw [hb]; exact p))
  | ex c d h' =>
    rw [hb] at p
    exact .inl (dNe_ok hK et H h x y v w W Q rx ry R (by rw [hb]; exact p))
end NR

set_option Elab.async false
set_option linter.all false
set_option maxRecDepth 100000
set_option maxHeartbeats 4000000
/-! a, b = (x, y) with plain local names; list.insert. -/
namespace NR
open PySem PySem.Spec PyProof.Rows L2
def msPar (i j : Nat) (ma : MA) : MS := fun env h => (ma env h).bindS env fun xs h1 => match xs with
  | [x, y] => .nx ((env.set i (some x)).set j (some y)) h1
  | _ => .no
section
variable {X : Cx} {G : Cf} {W : WX}
theorem ms_par {i j : Nat} {x y : Str} {a b : Expr} {ma : MA} {px py pt pos : Pos} {kt k2 pt2} (hc : X.calm = true) (hN : X.N.Nodup) (hi : X.N[i]? = some x) (hj : X.N[j]? = some y) (hij : i ≠ j)
    (hx : X.env.scope.names.lookup x = some .local) (hy : X.env.scope.names.lookup y = some .local) (ha : PA X [a, b] (tA G W ma))
    (hw : swappedStores [.Tuple [.Name x px, .Name y py] kt pt] (.Tuple [a, b] k2 pt2) X.env = pure (some [x, y]) := by rfl)
    (hs : swapsWithSole [.Tuple [.Name x px, .Name y py] kt pt] (.Tuple [a, b] k2 pt2) pos.line X.env = pure false := by rfl) :
    PS X (.Assign [.Tuple [.Name x px, .Name y py] kt pt] (.Tuple [a, b] k2 pt2) pos) (tS G W (msPar i j ma)) :=
  PS.imp (ps_par hc hN hi hj hij hx hy ha hw hs) fun D σ H ⟨et, env, h, hE, hH, hP⟩ => by
    refine ⟨et, env, h, hE, hH, (PstS.of_bind hE hP).imp fun et1 H1 h1 ds p e hr q vs hv => ?_⟩
    match ds, q, hv with
    | [d1, d2], q, hv =>
      obtain ⟨v, ws, rfl, r1, r2⟩ := denL_cons.mp hv
      obtain ⟨w, us, rfl, r3, r4⟩ := denL_cons.mp r2
      rw [denL_nil] at r4
      subst r4
      refine ⟨v, w, rfl, ?_⟩
      exact q et1 H1 _ List.prefix_rfl (Ext.refl _) hr (((hE.mono p e).set _ r1).set _ r3)
    | [], q, _ => exact q.elim
    | [_], q, _ => exact q.elim
    | _ :: _ :: _ :: _, q, _ => exact q.elim
end
@[simp] theorem ap_msPar {i j : Nat} {ma : MA} {env : EV} {h : IH} : msPar i j ma env h = (ma env h).bindS env fun xs h1 => match xs with
  | [x, y] => .nx ((env.set i (some x)).set j (some y)) h1
  | _ => .no := rfl
/-! ### list.insert -/
def fInsert : D → List D → IH → R D
  | .ref n, [.int i, y], h => match h[n]? with
    | some (.lst xs) => if xs.length < 10000000 ∧ 0 ≤ i ∧ i < 1000000000 then .ok .non (h.set n (.lst (xs.take i.toNat ++ [y] ++ xs.drop i.toNat))) else .no
    | _ => .no
  | _, _, _ => .no
def rInsert : V → List V → Hp → VK → Prop := fun x vs H Q => ∃ (l : Addr) (xs : List V) (i : Int) (y : V), x = .ref l ∧ vs = [.int i, y] ∧ H l = some (.lst xs) ∧ xs.length < sizeLine ∧ 0 ≤ i ∧ i < 2 ^ 63 ∧
    Q .non (upd H l (.lst (xs.take i.toNat ++ [y] ++ xs.drop i.toNat)))
theorem mt_insertA {X : Cx} : MtR X "list.insert" rInsert := mt_insert
theorem fInsert_ok {G : Cf} : MethS G rInsert fInsert := by
  intro et H h x v xs vs W Q rx rv R p
  unfold fInsert at p
  split at p
  · split at p
    · split at p
      · rename_i n i y _ ys hx c
        obtain ⟨w1, ws, rfl, q1, q2⟩ := denL_cons.mp rv
        obtain ⟨w, rfl, h1⟩ := list1 q2
        obtain ⟨a, us, h2, rfl, h3, h4⟩ := den_list R hx rx
        have c2 : i < 2 ^ 63 := Int.lt_trans c.2.2 (by decide)
        refine ⟨a, us, i, w, rfl, by rw [den_int.mp q1], h3, by rw [h4.len, sizeLine_eq]; omega, c.2.1, c2, ?_⟩
        have ex : Ext H (upd H a (.lst (us.take i.toNat ++ [w] ++ us.drop i.toNat))) := Ext.mut h3 True.intro
        exact p et _ List.prefix_rfl ex (R.set hx h2 rfl h3 True.intro ⟨_, upd_same, (((h4.take _).app (denL_cons.mpr ⟨w, [], rfl, h1, by simp⟩)).app (h4.drop _)).mono List.prefix_rfl ex⟩) _ (by simp)
      · exact p.elim
    · exact p.elim
  · exact p.elim
/-! ### o[a:c] = a list -/
section
variable {X : Cx}
def gSl (to : TE) (tl tu : TO) : TG := fun v σ H Q => to σ H fun o H1 => tl σ H1 fun l H2 => tu σ H2 fun u H3 => ∃ (n b : Addr) (xs ys : List V) (a c : Int), o = .ref n ∧ v = .ref b ∧ l = some a ∧ u = some c ∧ H3 n = some (.lst xs) ∧ H3 b = some (.lst ys) ∧ n ≠ b ∧ 0 ≤ a ∧ a ≤ c ∧ c ≤ xs.length ∧ xs.length + ys.length ≤ sizeLine ∧ Q σ (upd H3 n (.lst (xs.take a.toNat ++ ys ++ xs.drop c.toNat)))
theorem pg_sl {o : Expr} {lo hi : Option Expr} {to : TE} {tl tu : TO} {p2 pos : Pos} (ho : PE X o to) (hl : PO X lo tl) (hu : PO X hi tu)
    (ha : ∀ v, assign (.Subscript o (.Slice lo hi none p2) pos) X.env v = (do
      let ov ← holding [v] (eval o X.env)
      let iv ← holding [v, ov] (eval (.Slice lo hi none p2) X.env)
      standAt pos
      holding [v, ov, iv] (setItem ov iv v)
      release [iv, v, ov] []) := by intro _; rfl) : PG X (.Subscript o (.Slice lo hi none p2) pos) (gSl to tl tu) := by
  refine ⟨fun pins s σ H v w Q I r h => ?_⟩
  rw [ha]
  refine wpAny_bind (wpAny_holding (thn (ho.run pins s σ H _ I h) fun ov s1 ⟨x, H1, I1, r1, q1⟩ => ?_))
  refine wpAny_bind (wpAny_holding ?_)
  refine wpAny_Slice (thn (hl.run pins s1 σ H1 _ I1 q1) fun vl s2 ⟨l, H2, I2, pl, q2⟩ => thn (hu.run pins s2 σ H2 _ I2 q2) fun vu s3 ⟨u, H3, I3, pu, q3⟩ => ?_)
  rw [evalPart_none]
  refine wpAny_pure ?_
  have I4 : Inv X pins σ H3 { s3 with heap := s3.heap.push { cls := .type "slice", data := .fields #[vl, vu, .none] } } := I3.kept (t' := s3.toks) fun b ob q => Heap.get?_push_of_some _ q
  obtain ⟨n, b, xs, ys, a, c, rfl, rfl, rfl, rfl, hn, hb, ne, a0, ac, cl, zs, q4⟩ := q3
  cases r
  cases r1
  have ra : RelV (.int a) vl := by
    cases pl
    exact ⟨_, rfl⟩
  have rc : RelV (.int c) vu := by
    cases pu
    exact ⟨_, rfl⟩
  refine wpAny_bind (wpAny_standAt (wpAny_bind (wpAny_holding (set_slice I4 hn hb ne (Heap.IsSliceOf.new ..) ra rc a0 ac cl zs fun s5 I5 => ?_))))
  exact wpAny_release ⟨σ, _, I5, q4⟩
end
def msSetSl (mo : ME) (m1 m2 : MO) (me : ME) : MS := fun env h => (me env h).bindS env fun v h1 => (mo env h1).bindS env fun o h2 => (m1 env h2).bindS env fun l h3 => (m2 env h3).bindS env fun u h4 => match o, v, l, u with
  | .ref n, .ref b, some a, some c => match h4[n]?, h4[b]? with
    | some (.lst xs), some (.lst ys) => if n ≠ b ∧ 0 ≤ a ∧ a ≤ c ∧ c ≤ xs.length ∧ xs.length + ys.length ≤ 10000000 then .nx env (h4.set n (.lst (xs.take a.toNat ++ ys ++ xs.drop c.toNat))) else .no
    | _, _ => .no
  | _, _, _, _ => .no
section
variable {X : Cx} {G : Cf} {W : WX}
theorem ms_setSl {o e : Expr} {lo hi : Option Expr} {mo me : ME} {m1 m2 : MO} {p2 pos pos' : Pos} (he : PE X e (tE G W me)) (ho : PE X o (tE G W mo)) (h1 : PO X lo (tO G W m1)) (h2 : PO X hi (tO G W m2))
    (hg : ∀ v, assign (.Subscript o (.Slice lo hi none p2) pos') X.env v = (do
      let ov ← holding [v] (eval o X.env)
      let iv ← holding [v, ov] (eval (.Slice lo hi none p2) X.env)
      standAt pos'
      holding [v, ov, iv] (setItem ov iv v)
      release [iv, v, ov] []) := by intro _; rfl)
    (hs : swapsWithSole [.Subscript o (.Slice lo hi none p2) pos'] e pos.line X.env = pure false := by rfl) (hw : swappedStores [.Subscript o (.Slice lo hi none p2) pos'] e X.env = pure none := by rfl)
    (ha : (assignEach [.Subscript o (.Slice lo hi none p2) pos'] X.env).map (·.2) = [assign (.Subscript o (.Slice lo hi none p2) pos') X.env] := by rfl) : PS X (.Assign [.Subscript o (.Slice lo hi none p2) pos'] e pos) (tS G W (msSetSl mo m1 m2 me)) :=
  PS.imp (ps_asg he (pg_sl ho h1 h2 hg) hs hw ha) fun D σ H ⟨et, env, h, hE, hH, hP⟩ => by
    refine ⟨et, env, h, hE, hH, (PstS.of_bind hE hP).imp fun et1 H1 h1 v p e hr q w hv => ?_⟩
    have hE1 := hE.mono p e
    refine ⟨et1, env, h1, hE1, hr, (PstS.of_bind hE1 q).imp fun et2 H2 h2 o p2 e2 hr2 q2 x hx => ?_⟩
    have hE2 := hE1.mono p2 e2
    refine ⟨et2, env, h2, hE2, hr2, (PstS.of_bind hE2 q2).imp fun et3 H3 h3 l p3 e3 hr3 q3 => ?_⟩
    have hE3 := hE2.mono p3 e3
    refine ⟨et3, env, h3, hE3, hr3, (PstS.of_bind hE3 q3).imp fun et4 H4 h4 u p4 e4 hr4 q4 => ?_⟩
    have hE4 := hE3.mono p4 e4
    split at q4
    · rename_i n b a c
      split at q4
      · rename_i xs ys hn hb
        split at q4
        · rename_i cnd
          obtain ⟨ne, a0, ac, cl, zs⟩ := cnd
          obtain ⟨an, vx, k1, rfl, k2, k3⟩ := den_list hr4 hn ((hx.mono p3 e3).mono p4 e4)
          obtain ⟨ab, vy, j1, rfl, j2, j3⟩ := den_list hr4 hb (((hv.mono p2 e2).mono p3 e3).mono p4 e4)
          have nab : an ≠ ab := fun z => ne (hr4.nd n b _ _ an hn hb k1 (z ▸ j1) rfl rfl)
          refine ⟨an, ab, vx, vy, a, c, rfl, rfl, rfl, rfl, k2, j2, nab, a0, ac, by rw [k3.len]; exact cl, by rw [k3.len, j3.len]; exact sz zs, ?_⟩
          have ex : Ext H4 (upd H4 an (.lst (vx.take a.toNat ++ vy ++ vx.drop c.toNat))) := Ext.mut k2 True.intro
          exact q4 et4 _ _ List.prefix_rfl ex (hr4.set hn k1 rfl k2 True.intro ⟨_, upd_same, (((k3.take _).app j3).app (k3.drop _)).mono List.prefix_rfl ex⟩) (hE4.mono List.prefix_rfl ex)
        · exact q4.elim
      · exact q4.elim
    · exact q4.elim
end
@[simp] theorem ap_msSetSl {mo : ME} {m1 m2 : MO} {me : ME} {env : EV} {h : IH} : msSetSl mo m1 m2 me env h = (me env h).bindS env fun v h1 => (mo env h1).bindS env fun o h2 => (m1 env h2).bindS env fun l h3 => (m2 env h3).bindS env fun u h4 => match o, v, l, u with
  | .ref n, .ref b, some a, some c => match h4[n]?, h4[b]? with
    | some (.lst xs), some (.lst ys) => if n ≠ b ∧ 0 ≤ a ∧ a ≤ c ∧ c ≤ xs.length ∧ xs.length + ys.length ≤ 10000000 then .nx env (h4.set n (.lst (xs.take a.toNat ++ ys ++ xs.drop c.toNat))) else .no
    | _, _ => .no
  | _, _, _, _ => .no := rfl
end NR

set_option Elab.async false
set_option linter.all false
set_option maxRecDepth 100000
set_option maxHeartbeats 4000000
namespace NR
open PySem PySem.Spec PyProof.Rows L2
def topS (i : Nat) : Stmt := PySem.Challenge.pw_nearreach_k36_cuts_looked_at.main.body.getD i (.Pass ⟨0, 0, 0, 0⟩)
/-! is_number -/
noncomputable def m_is_number : MF := fnM 1 (msRet (mAndV (mIs "int" (mVar 0)) (mNotV (mIs "bool" (mVar 0)))))
theorem sc_is_number : FnScope ["thing"] ["thing"] (defScope (topS 4)) := ⟨rfl, rfl, rfl, by decide +kernel, rfl, by decide +kernel, by decide +kernel⟩
theorem okf_is_number {P : Program} {w : World} {K : PySem.W.Frag} {mg : Str → Option Value} {base : Heap} {cl : Str → Addr} {f : Addr} {fd : FuncData} (F : Fun K "is_number" "is_number" (topS 4) f fd) (z_isinstance : mg "isinstance" = none) (z_int : mg "int" = none) (z_bool : mg "bool" = none) : FnOk P w K mg base (L2.CX P w) 1 f fd ["thing"] (FSp ⟨K, cl⟩ 1 m_is_number) :=
  fnPM F sc_is_number rfl fun cdv A outer s H E hr tk hp => mss_one (ms_ret (me_and (me_is rfl (me_var 0) z_isinstance z_int) (me_one (me_not (me_is rfl (me_var 0) z_isinstance z_bool)))))
theorem ok_is_number {P : Program} {w : World} {K : PySem.W.Frag} {mg : Str → Option Value} {base : Heap} {cl : Str → Addr} (d : DefAt K mg "is_number" (topS 4) ["thing"]) (z_isinstance : mg "isinstance" = none) (z_int : mg "int" = none) (z_bool : mg "bool" = none) : FnG P w K mg base ⟨K, cl⟩ "is_number" 1 1 m_is_number := d.fn fun f fd F => okf_is_number F z_isinstance z_int z_bool
/-! is_text -/
noncomputable def e_is_text_1 : ME := mOp (dIn false) (mVar 2) (mVar 0)
noncomputable def m_is_text : MF := fnM 3 (msRet (mAndV (mIs "str" (mVar 1)) (mB bAll (mCons (mFz (mLc (iSeq (mVar 1)) (gSet 2) mYes e_is_text_1 [2])) (mNil)))))
theorem sc_is_text : FnScope ["tongue", "thing", "sign"] ["tongue", "thing"] (defScope (topS 7)) := ⟨rfl, rfl, rfl, by decide +kernel, rfl, by decide +kernel, by decide +kernel⟩
theorem okf_is_text {P : Program} {w : World} {K : PySem.W.Frag} {mg : Str → Option Value} {base : Heap} {cl : Str → Addr} {f : Addr} {fd : FuncData} (F : Fun K "is_text" "is_text" (topS 7) f fd) (z_isinstance : mg "isinstance" = none) (z_str : mg "str" = none) (z_all : mg "all" = none) : FnOk P w K mg base (L2.CX P w) 1 f fd ["tongue", "thing"] (FSp ⟨K, cl⟩ 2 m_is_text) :=
  fnPM F sc_is_text rfl fun cdv A outer s H E hr tk hp => mss_one (ms_ret (me_and (me_is rfl (me_var 1) z_isinstance z_str) (me_one (me_callB (cr_all rfl) bAll_ok z_all (by decide +kernel) (ma_cons (me_fz (me_lc (own := [("sign", 2)]) rfl sc_is_text.nd (mi_seq rfl (me_var 1)) (blkOk_by (N := ["tongue", "thing", "sign"]) (sc := defScope (topS 7)) (by decide +kernel)) (fun _ _ _ _ _ => mg_name 2 sc_is_text.nd) (fun _ _ _ _ _ => mts_nil) (fun _ _ _ _ _ => me_cmp (op_inA hr.units) (dIn_ok rfl false) (me_var 2) (me_var 0)))) (ma_nil))))))
theorem ok_is_text {P : Program} {w : World} {K : PySem.W.Frag} {mg : Str → Option Value} {base : Heap} {cl : Str → Addr} (d : DefAt K mg "is_text" (topS 7) ["tongue", "thing"]) (z_isinstance : mg "isinstance" = none) (z_str : mg "str" = none) (z_all : mg "all" = none) : FnG P w K mg base ⟨K, cl⟩ "is_text" 1 2 m_is_text := d.fn fun f fd F => okf_is_text F z_isinstance z_str z_all
/-! longest -/
noncomputable def b_longest_1 : MS := msCons (msSet 6 (mOp dIx (mOp dIx (mVar 4) (mVar 6)) (mMeth "str" fFind (mVar 3) (mCons (mOp dIx (mVar 1) (mVar 8)) (mNil)))))
    (msIf (mTb (mOp dGe (mOp dIx (mVar 5) (mVar 6)) (mC (.int 0)))) (msSet 7 (mTup (mCons (mOp dIx (mVar 5) (mVar 6)) (mCons (mOp dAdd (mVar 8) (mC (.int 1))) (mNil))))) (msNil))
noncomputable def m_longest : MF := fnM 9 (msCons (msSetT (gSets [3, 4, 5]) (mVar 0))
    (msCons (msSet 6 (mC (.int 0)))
    (msCons (msSet 7 (mC .non))
    (msCons (msFor (iRange2 (mCons (mVar 2) (mCons (mB bLen (mCons (mVar 1) (mNil))) (mNil)))) (gSet 8) b_longest_1)
    (msRet (mVar 7))))))
theorem sc_longest : FnScope ["table", "text", "at", "tongue", "goes", "kinds", "room", "found", "place"] ["table", "text", "at"] (defScope (topS 9)) := ⟨rfl, rfl, rfl, by decide +kernel, rfl, by decide +kernel, by decide +kernel⟩
theorem okf_longest {P : Program} {w : World} {K : PySem.W.Frag} {mg : Str → Option Value} {base : Heap} {cl : Str → Addr} {f : Addr} {fd : FuncData} (F : Fun K "longest" "longest" (topS 9) f fd) (z_len : mg "len" = none) (z_range : mg "range" = none) : FnOk P w K mg base (L2.CX P w) 1 f fd ["table", "text", "at"] (FSp ⟨K, cl⟩ 3 m_longest) :=
  fnPM F sc_longest rfl fun cdv A outer s H E hr tk hp => mss_cons (ms_setT (me_var 0) (mg_tup rfl rfl (.cons (pg_name (i := 3) sc_longest.nd rfl (by first | exact Or.inl rfl | exact Or.inr rfl)) (.cons (pg_name (i := 4) sc_longest.nd rfl (by first | exact Or.inl rfl | exact Or.inr rfl)) (.cons (pg_name (i := 5) sc_longest.nd rfl (by first | exact Or.inl rfl | exact Or.inr rfl)) (.nil) rfl) rfl) rfl)))
    (mss_cons (ms_set 6 sc_longest.nd (me_int))
    (mss_cons (ms_set 7 sc_longest.nd (me_non))
    (mss_cons (ms_for rfl hp (mi_range2 (ma_cons (me_var 2) (ma_cons (me_callB call_lenA bLen_ok z_len (by decide +kernel) (ma_cons (me_var 1) (ma_nil))) (ma_nil))) z_range) (mg_name 8 sc_longest.nd) (mss_cons (ms_set 6 sc_longest.nd (me_ix rfl (me_ix rfl (me_var 4) (me_var 6)) (me_meth rfl PySem.F.plainAttrs_str PySem.F.slot_str_find PySem.F.type_str_find mt_find fFind_ok (me_var 3) (ma_cons (me_ix rfl (me_var 1) (me_var 8)) (ma_nil)))))
    (mss_one (ms_if (mt_cmp op_ge opS_C (me_ix rfl (me_var 5) (me_var 6)) (me_int)) (mss_one (ms_set 7 sc_longest.nd (me_tup (ma_cons (me_ix rfl (me_var 5) (me_var 6)) (ma_cons (me_add rfl (me_var 8) (me_int)) (ma_nil)))))) (mss_nil)))))
    (mss_one (ms_ret (me_var 7))))))
theorem ok_longest {P : Program} {w : World} {K : PySem.W.Frag} {mg : Str → Option Value} {base : Heap} {cl : Str → Addr} (d : DefAt K mg "longest" (topS 9) ["table", "text", "at"]) (z_len : mg "len" = none) (z_range : mg "range" = none) : FnG P w K mg base ⟨K, cl⟩ "longest" 1 3 m_longest := d.fn fun f fd F => okf_longest F z_len z_range
/-! _law_said -/
noncomputable def m__law_said : MF := fnM 2 (msCons (msIf (mTr (mVar 1)) (msRet (mOp (dIsN false) (mVar 0) (mC (.bl true)))) (msNil))
    (msRet (mOp (dIsN false) (mVar 0) (mC (.bl false)))))
theorem sc__law_said : FnScope ["_law_found", "_law_wanted"] ["_law_found", "_law_wanted"] (defScope (topS 13)) := ⟨rfl, rfl, rfl, by decide +kernel, rfl, by decide +kernel, by decide +kernel⟩
theorem okf__law_said {P : Program} {w : World} {K : PySem.W.Frag} {mg : Str → Option Value} {base : Heap} {cl : Str → Addr} {f : Addr} {fd : FuncData} (F : Fun K "_law_said" "_law_said" (topS 13) f fd) : FnOk P w K mg base (L2.CX P w) 1 f fd ["_law_found", "_law_wanted"] (FSp ⟨K, cl⟩ 2 m__law_said) :=
  fnPM F sc__law_said rfl fun cdv A outer s H E hr tk hp => mss_cons (ms_if (mt_val rfl (me_var 1)) (mss_one (ms_ret (me_cmp op_isA dIs_ok (me_var 0) (me_bl)))) (mss_nil))
    (mss_one (ms_ret (me_cmp op_isA dIs_ok (me_var 0) (me_bl))))
theorem ok__law_said {P : Program} {w : World} {K : PySem.W.Frag} {mg : Str → Option Value} {base : Heap} {cl : Str → Addr} (d : DefAt K mg "_law_said" (topS 13) ["_law_found", "_law_wanted"]) : FnG P w K mg base ⟨K, cl⟩ "_law_said" 1 2 m__law_said := d.fn fun f fd F => okf__law_said F
/-! _law_source -/
noncomputable def e__law_source_1 : ME := mOp dAdd (mOp dMul (mC (.int 2)) (mB bAbs (mCons (mVar 2) (mNil)))) (mB bInt1 (mCons (mOp dLt (mVar 2) (mC (.int 0))) (mNil)))
noncomputable def m__law_source : MF := fnM 3 (msCons (msSet 1 (mFz (mLc (iSeq (mFz (mSlice (mVar 0) (moNone) (moSome (mC (.int 63)))))) (gSet 2) mYes e__law_source_1 [2])))
    (msRet (mLst (mCons (mVar 1) (mCons (mC (.int 0)) (mCons (mC (.int 0)) (mCons (mC (.int 0)) (mCons (mOp dMod (mB bSum (mCons (mVar 1) (mNil))) (mC (.int 2147483647))) (mNil)))))))))
theorem sc__law_source : FnScope ["_law_script", "_law_cells", "_law_cell"] ["_law_script"] (defScope (topS 14)) := ⟨rfl, rfl, rfl, by decide +kernel, rfl, by decide +kernel, by decide +kernel⟩
theorem okf__law_source {P : Program} {w : World} {K : PySem.W.Frag} {mg : Str → Option Value} {base : Heap} {cl : Str → Addr} {f : Addr} {fd : FuncData} (F : Fun K "_law_source" "_law_source" (topS 14) f fd) (z_abs : mg "abs" = none) (z_int : mg "int" = none) (z_sum : mg "sum" = none) : FnOk P w K mg base (L2.CX P w) 1 f fd ["_law_script"] (FSp ⟨K, cl⟩ 1 m__law_source) :=
  fnPM F sc__law_source rfl fun cdv A outer s H E hr tk hp => mss_cons (ms_setF (ms_setLc 1 (own := [("_law_cell", 2)]) rfl sc__law_source.nd (mi_seq rfl (me_fz (me_slice rfl (me_var 0) (moN) (moS (me_int))))) (blkOk_by (N := ["_law_script", "_law_cells", "_law_cell"]) (sc := defScope (topS 14)) (by decide +kernel)) (fun _ _ _ _ _ => mg_name 2 sc__law_source.nd) (fun _ _ _ _ _ => mts_nil) (fun _ _ _ _ _ => me_add rfl (me_mul rfl (me_int) (me_callB call_abs bAbs_ok z_abs (by decide +kernel) (ma_cons (me_var 2) (ma_nil)))) (me_callT call_int1 bInt1_ok z_int (by decide +kernel) (ma_cons (me_cmp op_lt opS_C (me_var 2) (me_int)) (ma_nil)))) (sw_true rfl rfl rfl (by decide +kernel))))
    (mss_one (ms_ret (me_lst (ma_cons (me_var 1) (ma_cons (me_int) (ma_cons (me_int) (ma_cons (me_int) (ma_cons (me_mod (me_callB (cr_sum rfl) bSum_ok z_sum (by decide +kernel) (ma_cons (me_var 1) (ma_nil))) (me_int)) (ma_nil)))))))))
theorem ok__law_source {P : Program} {w : World} {K : PySem.W.Frag} {mg : Str → Option Value} {base : Heap} {cl : Str → Addr} (d : DefAt K mg "_law_source" (topS 14) ["_law_script"]) (z_abs : mg "abs" = none) (z_int : mg "int" = none) (z_sum : mg "sum" = none) : FnG P w K mg base ⟨K, cl⟩ "_law_source" 1 1 m__law_source := d.fn fun f fd F => okf__law_source F z_abs z_int z_sum
/-! _law_draw -/
noncomputable def m__law_draw : MF := fnM 4 (msCons (msAugI dIAdd (mVar 0) (mC (.int 3)) (mC (.int 1)))
    (msCons (msIf (mAnd (mTb (mOp (dEq false) (mOp dIx (mVar 0) (mC (.int 2))) (mC (.int 0)))) (mTb (mOp dLt (mOp dIx (mVar 0) (mC (.int 1))) (mB bLen (mCons (mOp dIx (mVar 0) (mC (.int 0))) (mNil)))))) (msCons (msSet 2 (mOp dIx (mOp dIx (mVar 0) (mC (.int 0))) (mOp dIx (mVar 0) (mC (.int 1)))))
    (msCons (msAugI dIAdd (mVar 0) (mC (.int 1)) (mC (.int 1)))
    (msIf (mTb (mOp dGe (mVar 2) (mOp dPow (mC (.int 10)) (mC (.int 18))))) (msSetI (mVar 0) (mC (.int 2)) (mVar 2)) (msSetI (mVar 0) (mC (.int 4)) (mOp dMod (mOp dAdd (mOp dMul (mOp dIx (mVar 0) (mC (.int 4))) (mC (.int 31))) (mVar 2)) (mC (.int 2147483647))))))) (msNil))
    (msCons (msIf (mTb (mOp dGt (mOp dIx (mVar 0) (mC (.int 2))) (mC (.int 0)))) (msCons (msSet 3 (mOp dMod (mOp dIx (mVar 0) (mC (.int 2))) (mVar 1)))
    (msCons (msAugI dDiv (mVar 0) (mC (.int 2)) (mVar 1))
    (msRet (mVar 3)))) (msNil))
    (msCons (msSet 3 (mOp dMod (mOp dPow (mOp dAdd (mOp dAdd (mOp dIx (mVar 0) (mC (.int 4))) (mC (.int 1))) (mOp dMul (mOp dIx (mVar 0) (mC (.int 3))) (mC (.int 7919)))) (mC (.int 3))) (mC (.int 2147483647))))
    (msRet (mOp dMod (mOp dDiv (mOp dMod (mOp dPow (mOp dAdd (mOp dMul (mVar 3) (mC (.int 48271))) (mOp dIx (mVar 0) (mC (.int 3)))) (mC (.int 2))) (mC (.int 2147483629))) (mC (.int 64))) (mVar 1)))))))
theorem sc__law_draw : FnScope ["_law_left", "_law_many", "_law_cell", "_law_told"] ["_law_left", "_law_many"] (defScope (topS 15)) := ⟨rfl, rfl, rfl, by decide +kernel, rfl, by decide +kernel, by decide +kernel⟩
theorem okf__law_draw {P : Program} {w : World} {K : PySem.W.Frag} {mg : Str → Option Value} {base : Heap} {cl : Str → Addr} {f : Addr} {fd : FuncData} (F : Fun K "_law_draw" "_law_draw" (topS 15) f fd) (z_len : mg "len" = none) : FnOk P w K mg base (L2.CX P w) 1 f fd ["_law_left", "_law_many"] (FSp ⟨K, cl⟩ 2 m__law_draw) :=
  fnPM F sc__law_draw rfl fun cdv A outer s H E hr tk hp => mss_cons (ms_augI rfl iop_addA iadd_ok (me_var 0) (me_int) (me_int))
    (mss_cons (ms_if (mt_w (mw_and (mt_cmp (op_eqP hr.units) (dEq_ok rfl) (me_ix rfl (me_var 0) (me_int)) (me_int)) (mw_and1 (mt_cmp op_lt opS_C (me_ix rfl (me_var 0) (me_int)) (me_callB call_lenA bLen_ok z_len (by decide +kernel) (ma_cons (me_ix rfl (me_var 0) (me_int)) (ma_nil))))))) (mss_cons (ms_set 2 sc__law_draw.nd (me_ix rfl (me_ix rfl (me_var 0) (me_int)) (me_ix rfl (me_var 0) (me_int))))
    (mss_cons (ms_augI rfl iop_addA iadd_ok (me_var 0) (me_int) (me_int))
    (mss_one (ms_if (mt_cmp op_ge opS_C (me_var 2) (me_pow (me_int) (me_int))) (mss_one (ms_setI (me_var 2) (me_var 0) (me_int))) (mss_one (ms_setI (me_mod (me_add rfl (me_mul rfl (me_ix rfl (me_var 0) (me_int)) (me_int)) (me_var 2)) (me_int)) (me_var 0) (me_int))))))) (mss_nil))
    (mss_cons (ms_if (mt_cmp op_gt opS_C (me_ix rfl (me_var 0) (me_int)) (me_int)) (mss_cons (ms_set 3 sc__law_draw.nd (me_mod (me_ix rfl (me_var 0) (me_int)) (me_var 1)))
    (mss_cons (ms_augI rfl iop_fdivW idiv_ok (me_var 0) (me_int) (me_var 1))
    (mss_one (ms_ret (me_var 3))))) (mss_nil))
    (mss_cons (ms_set 3 sc__law_draw.nd (me_mod (me_pow (me_add rfl (me_add rfl (me_ix rfl (me_var 0) (me_int)) (me_int)) (me_mul rfl (me_ix rfl (me_var 0) (me_int)) (me_int))) (me_int)) (me_int)))
    (mss_one (ms_ret (me_mod (me_div (me_mod (me_pow (me_add rfl (me_mul rfl (me_var 3) (me_int)) (me_ix rfl (me_var 0) (me_int))) (me_int)) (me_int)) (me_int)) (me_var 1)))))))
theorem ok__law_draw {P : Program} {w : World} {K : PySem.W.Frag} {mg : Str → Option Value} {base : Heap} {cl : Str → Addr} (d : DefAt K mg "_law_draw" (topS 15) ["_law_left", "_law_many"]) (z_len : mg "len" = none) : FnG P w K mg base ⟨K, cl⟩ "_law_draw" 1 2 m__law_draw := d.fn fun f fd F => okf__law_draw F z_len
/-! _law_signs -/
noncomputable def m__law_signs : MF := fnM 1 (msCons (msSet 0 (mC (.str [32, 33, 34, 35, 36, 38, 39, 40, 41, 42, 43, 44, 45, 46, 47, 48, 49, 50, 51, 52, 53, 54, 55, 56, 57, 58, 59, 60, 61, 62, 63, 64, 65, 66, 67, 68, 69, 70, 71, 72, 73, 74, 75, 76, 77, 78, 79, 80, 81, 82, 83, 84, 85, 86, 87, 88, 89, 90, 91, 92, 93, 94, 95, 96])))
    (msRet (mOp dAdd (mVar 0) (mC (.str [97, 98, 99, 100, 101, 102, 103, 104, 105, 106, 107, 108, 109, 110, 111, 112, 113, 114, 115, 116, 117, 118, 119, 120, 121, 122, 123, 124, 125, 126, 10])))))
theorem sc__law_signs : FnScope ["_law_some"] [] (defScope (topS 16)) := ⟨rfl, rfl, rfl, by decide +kernel, rfl, by decide +kernel, by decide +kernel⟩
theorem okf__law_signs {P : Program} {w : World} {K : PySem.W.Frag} {mg : Str → Option Value} {base : Heap} {cl : Str → Addr} {f : Addr} {fd : FuncData} (F : Fun K "_law_signs" "_law_signs" (topS 16) f fd) : FnOk P w K mg base (L2.CX P w) 1 f fd [] (FSp ⟨K, cl⟩ 0 m__law_signs) :=
  fnPM F sc__law_signs rfl fun cdv A outer s H E hr tk hp => mss_cons (ms_set 0 sc__law_signs.nd (me_str [32, 33, 34, 35, 36, 38, 39, 40, 41, 42, 43, 44, 45, 46, 47, 48, 49, 50, 51, 52, 53, 54, 55, 56, 57, 58, 59, 60, 61, 62, 63, 64, 65, 66, 67, 68, 69, 70, 71, 72, 73, 74, 75, 76, 77, 78, 79, 80, 81, 82, 83, 84, 85, 86, 87, 88, 89, 90, 91, 92, 93, 94, 95, 96]))
    (mss_one (ms_ret (me_add rfl (me_var 0) (me_str [97, 98, 99, 100, 101, 102, 103, 104, 105, 106, 107, 108, 109, 110, 111, 112, 113, 114, 115, 116, 117, 118, 119, 120, 121, 122, 123, 124, 125, 126, 10]))))
theorem ok__law_signs {P : Program} {w : World} {K : PySem.W.Frag} {mg : Str → Option Value} {base : Heap} {cl : Str → Addr} (d : DefAt K mg "_law_signs" (topS 16) []) : FnG P w K mg base ⟨K, cl⟩ "_law_signs" 1 0 m__law_signs := d.fn fun f fd F => okf__law_signs F
/-! _law_first -/
noncomputable def b__law_first_1 : MS := msCons (msSet 3 (mOp dIx (mOp dIx (mOp dIx (mVar 0) (mC (.int 1))) (mVar 3)) (mMeth "str" fFind (mOp dIx (mVar 0) (mC (.int 0))) (mCons (mOp dIx (mVar 1) (mVar 5)) (mNil)))))
    (msIf (mTb (mOp dGe (mOp dIx (mOp dIx (mVar 0) (mC (.int 2))) (mVar 3)) (mC (.int 0)))) (msSet 4 (mTup (mCons (mOp dIx (mOp dIx (mVar 0) (mC (.int 2))) (mVar 3)) (mCons (mOp dAdd (mVar 5) (mC (.int 1))) (mNil))))) (msNil))
noncomputable def m__law_first : MF := fnM 6 (msCons (msSet 3 (mC (.int 0)))
    (msCons (msSet 4 (mC .non))
    (msCons (msFor (iRange2 (mCons (mVar 2) (mCons (mB bLen (mCons (mVar 1) (mNil))) (mNil)))) (gSet 5) b__law_first_1)
    (msRet (mVar 4)))))
theorem sc__law_first : FnScope ["_law_table_here", "_law_text_here", "_law_at", "_law_room", "_law_due", "_law_place"] ["_law_table_here", "_law_text_here", "_law_at"] (defScope (topS 21)) := ⟨rfl, rfl, rfl, by decide +kernel, rfl, by decide +kernel, by decide +kernel⟩
theorem okf__law_first {P : Program} {w : World} {K : PySem.W.Frag} {mg : Str → Option Value} {base : Heap} {cl : Str → Addr} {f : Addr} {fd : FuncData} (F : Fun K "_law_first" "_law_first" (topS 21) f fd) (z_len : mg "len" = none) (z_range : mg "range" = none) : FnOk P w K mg base (L2.CX P w) 1 f fd ["_law_table_here", "_law_text_here", "_law_at"] (FSp ⟨K, cl⟩ 3 m__law_first) :=
  fnPM F sc__law_first rfl fun cdv A outer s H E hr tk hp => mss_cons (ms_set 3 sc__law_first.nd (me_int))
    (mss_cons (ms_set 4 sc__law_first.nd (me_non))
    (mss_cons (ms_for rfl hp (mi_range2 (ma_cons (me_var 2) (ma_cons (me_callB call_lenA bLen_ok z_len (by decide +kernel) (ma_cons (me_var 1) (ma_nil))) (ma_nil))) z_range) (mg_name 5 sc__law_first.nd) (mss_cons (ms_set 3 sc__law_first.nd (me_ix rfl (me_ix rfl (me_ix rfl (me_var 0) (me_int)) (me_var 3)) (me_meth rfl PySem.F.plainAttrs_str PySem.F.slot_str_find PySem.F.type_str_find mt_find fFind_ok (me_ix rfl (me_var 0) (me_int)) (ma_cons (me_ix rfl (me_var 1) (me_var 5)) (ma_nil)))))
    (mss_one (ms_if (mt_cmp op_ge opS_C (me_ix rfl (me_ix rfl (me_var 0) (me_int)) (me_var 3)) (me_int)) (mss_one (ms_set 4 sc__law_first.nd (me_tup (ma_cons (me_ix rfl (me_ix rfl (me_var 0) (me_int)) (me_var 3)) (ma_cons (me_add rfl (me_var 5) (me_int)) (ma_nil)))))) (mss_nil)))))
    (mss_one (ms_ret (me_var 4)))))
theorem ok__law_first {P : Program} {w : World} {K : PySem.W.Frag} {mg : Str → Option Value} {base : Heap} {cl : Str → Addr} (d : DefAt K mg "_law_first" (topS 21) ["_law_table_here", "_law_text_here", "_law_at"]) (z_len : mg "len" = none) (z_range : mg "range" = none) : FnG P w K mg base ⟨K, cl⟩ "_law_first" 1 3 m__law_first := d.fn fun f fd F => okf__law_first F z_len z_range
/-! _law_numbers -/
noncomputable def b__law_numbers_1 : MS := msIf (mOr (mNot (mTr (mIs "int" (mVar 2)))) (mTr (mIs "bool" (mVar 2)))) (msRet (mC (.bl false))) (msNil)
noncomputable def m__law_numbers : MF := fnM 3 (msCons (msIf (mOr (mNot (mTr (mIs "tuple" (mVar 0)))) (mTb (mOp (dEq true) (mB bLen (mCons (mVar 0) (mNil))) (mVar 1)))) (msRet (mC (.bl false))) (msNil))
    (msCons (msFor (iSeq (mVar 0)) (gSet 2) b__law_numbers_1)
    (msRet (mC (.bl true)))))
theorem sc__law_numbers : FnScope ["_law_found", "_law_many", "_law_one"] ["_law_found", "_law_many"] (defScope (topS 23)) := ⟨rfl, rfl, rfl, by decide +kernel, rfl, by decide +kernel, by decide +kernel⟩
theorem okf__law_numbers {P : Program} {w : World} {K : PySem.W.Frag} {mg : Str → Option Value} {base : Heap} {cl : Str → Addr} {f : Addr} {fd : FuncData} (F : Fun K "_law_numbers" "_law_numbers" (topS 23) f fd) (z_isinstance : mg "isinstance" = none) (z_tuple : mg "tuple" = none) (z_len : mg "len" = none) (z_int : mg "int" = none) (z_bool : mg "bool" = none) : FnOk P w K mg base (L2.CX P w) 1 f fd ["_law_found", "_law_many"] (FSp ⟨K, cl⟩ 2 m__law_numbers) :=
  fnPM F sc__law_numbers rfl fun cdv A outer s H E hr tk hp => mss_cons (ms_if (mt_w (mw_or (mt_not (mt_val rfl (me_is rfl (me_var 0) z_isinstance z_tuple))) (mw_or1 (mt_cmp (op_neP hr.units) (dNe_ok rfl) (me_callB call_lenA bLen_ok z_len (by decide +kernel) (ma_cons (me_var 0) (ma_nil))) (me_var 1))))) (mss_one (ms_ret (me_bl))) (mss_nil))
    (mss_cons (ms_for rfl hp (mi_seq rfl (me_var 0)) (mg_name 2 sc__law_numbers.nd) (mss_one (ms_if (mt_w (mw_or (mt_not (mt_val rfl (me_is rfl (me_var 2) z_isinstance z_int))) (mw_or1 (mt_val rfl (me_is rfl (me_var 2) z_isinstance z_bool))))) (mss_one (ms_ret (me_bl))) (mss_nil))))
    (mss_one (ms_ret (me_bl))))
theorem ok__law_numbers {P : Program} {w : World} {K : PySem.W.Frag} {mg : Str → Option Value} {base : Heap} {cl : Str → Addr} (d : DefAt K mg "_law_numbers" (topS 23) ["_law_found", "_law_many"]) (z_isinstance : mg "isinstance" = none) (z_tuple : mg "tuple" = none) (z_len : mg "len" = none) (z_int : mg "int" = none) (z_bool : mg "bool" = none) : FnG P w K mg base ⟨K, cl⟩ "_law_numbers" 1 2 m__law_numbers := d.fn fun f fd F => okf__law_numbers F z_isinstance z_tuple z_len z_int z_bool
/-! is_numbers -/
noncomputable def b_is_numbers_1 : MS := msIf (mNot (mTr (mCall 1 (m_is_number) (mCons (mVar 1) (mNil))))) (msRet (mC (.bl false))) (msNil)
noncomputable def m_is_numbers : MF := fnM 2 (msCons (msIf (mNot (mTr (mIs "tuple" (mVar 0)))) (msRet (mC (.bl false))) (msNil))
    (msCons (msFor (iSeq (mVar 0)) (gSet 1) b_is_numbers_1)
    (msRet (mC (.bl true)))))
theorem sc_is_numbers : FnScope ["thing", "one"] ["thing"] (defScope (topS 5)) := ⟨rfl, rfl, rfl, by decide +kernel, rfl, by decide +kernel, by decide +kernel⟩
theorem okf_is_numbers {P : Program} {w : World} {K : PySem.W.Frag} {mg : Str → Option Value} {base : Heap} {cl : Str → Addr} {f : Addr} {fd : FuncData} (F : Fun K "is_numbers" "is_numbers" (topS 5) f fd) (z_isinstance : mg "isinstance" = none) (z_tuple : mg "tuple" = none) (F_is_number : FnG P w K mg base ⟨K, cl⟩ "is_number" 1 1 m_is_number) : FnOk P w K mg base (L2.CX P w) 2 f fd ["thing"] (FSp ⟨K, cl⟩ 1 m_is_numbers) :=
  fnPM F sc_is_numbers rfl fun cdv A outer s H E hr tk hp => mss_cons (ms_if (mt_not (mt_val rfl (me_is rfl (me_var 0) z_isinstance z_tuple))) (mss_one (ms_ret (me_bl))) (mss_nil))
    (mss_cons (ms_for rfl hp (mi_seq rfl (me_var 0)) (mg_name 1 sc_is_numbers.nd) (mss_one (ms_if (mt_not (mt_val rfl (me_callG F_is_number hr (by decide) tk (ma_cons (me_var 1) (ma_nil))))) (mss_one (ms_ret (me_bl))) (mss_nil))))
    (mss_one (ms_ret (me_bl))))
theorem ok_is_numbers {P : Program} {w : World} {K : PySem.W.Frag} {mg : Str → Option Value} {base : Heap} {cl : Str → Addr} (d : DefAt K mg "is_numbers" (topS 5) ["thing"]) (z_isinstance : mg "isinstance" = none) (z_tuple : mg "tuple" = none) (F_is_number : FnG P w K mg base ⟨K, cl⟩ "is_number" 1 1 m_is_number) : FnG P w K mg base ⟨K, cl⟩ "is_numbers" 2 1 m_is_numbers := d.fn fun f fd F => okf_is_numbers F z_isinstance z_tuple F_is_number
/-! cut -/
noncomputable def t_cut_1 : MT := mTb (mOp dLt (mVar 3) (mB bLen (mCons (mVar 1) (mNil))))
noncomputable def b_cut_2 : MS := msCons (msSet 4 (mCall 3 (m_longest) (mCons (mVar 0) (mCons (mVar 1) (mCons (mVar 3) (mNil))))))
    (msCons (msIf (mTb (mOp (dIsN false) (mVar 4) (mC .non))) (msFz 2 (msRet (mTup (mCons (mVar 2) (mCons (mVar 3) (mNil)))))) (msNil))
    (msCons (msExpr (mMeth "list" fAppend (mVar 2) (mCons (mTup (mCons (mOp dIx (mVar 4) (mC (.int 0))) (mCons (mVar 3) (mCons (mOp dIx (mVar 4) (mC (.int 1))) (mNil))))) (mNil))))
    (msSet 3 (mOp dIx (mVar 4) (mC (.int 1))))))
noncomputable def m_cut : MF := fnM 5 (msCons (msIf (mNot (mTr (mCall 2 (m_is_text) (mCons (mOp dIx (mVar 0) (mC (.int 0))) (mCons (mVar 1) (mNil)))))) (msRaise "NoText") (msNil))
    (msCons (msSet 2 (mLst (mNil)))
    (msCons (msSet 3 (mC (.int 0)))
    (msCons (msWhile t_cut_1 b_cut_2)
    (msFz 2 (msRet (mTup (mCons (mVar 2) (mCons (mVar 3) (mNil))))))))))
theorem sc_cut : FnScope ["table", "text", "pieces", "place", "found"] ["table", "text"] (defScope (topS 10)) := ⟨rfl, rfl, rfl, by decide +kernel, rfl, by decide +kernel, by decide +kernel⟩
theorem okf_cut {P : Program} {w : World} {K : PySem.W.Frag} {mg : Str → Option Value} {base : Heap} {cl : Str → Addr} {f : Addr} {fd : FuncData} (F : Fun K "cut" "cut" (topS 10) f fd) (z_len : mg "len" = none) (x_NoText : ExC1 K mg "NoText" (cl "NoText")) (F_is_text : FnG P w K mg base ⟨K, cl⟩ "is_text" 1 2 m_is_text) (F_longest : FnG P w K mg base ⟨K, cl⟩ "longest" 1 3 m_longest) : FnOk P w K mg base (L2.CX P w) 2 f fd ["table", "text"] (FSp ⟨K, cl⟩ 2 m_cut) :=
  fnPM F sc_cut rfl fun cdv A outer s H E hr tk hp => mss_cons (ms_if (mt_not (mt_val rfl (me_callG F_is_text hr (by decide) tk (ma_cons (me_ix rfl (me_var 0) (me_int)) (ma_cons (me_var 1) (ma_nil)))))) (mss_one (ms_raise rfl tk x_NoText)) (mss_nil))
    (mss_cons (ms_set 2 sc_cut.nd (me_lst (ma_nil)))
    (mss_cons (ms_set 3 sc_cut.nd (me_int))
    (mss_cons (ms_while hp (mt_cmp op_lt opS_C (me_var 3) (me_callB call_lenA bLen_ok z_len (by decide +kernel) (ma_cons (me_var 1) (ma_nil)))) (mss_cons (ms_set 4 sc_cut.nd (me_callG F_longest hr (by decide) tk (ma_cons (me_var 0) (ma_cons (me_var 1) (ma_cons (me_var 3) (ma_nil))))))
    (mss_cons (ms_if (mt_cmp op_isA dIs_ok (me_var 4) (me_non)) (mss_one (ms_fz 2 (ms_ret (me_tup (ma_cons (me_var 2) (ma_cons (me_var 3) (ma_nil))))))) (mss_nil))
    (mss_cons (ms_expr (me_meth rfl PySem.F.plainAttrs_list PySem.F.slot_list_append PySem.F.type_list_append mt_append fAppend_ok (me_var 2) (ma_cons (me_tup (ma_cons (me_ix rfl (me_var 4) (me_int)) (ma_cons (me_var 3) (ma_cons (me_ix rfl (me_var 4) (me_int)) (ma_nil))))) (ma_nil))))
    (mss_one (ms_set 3 sc_cut.nd (me_ix rfl (me_var 4) (me_int))))))))
    (mss_one (ms_fz 2 (ms_ret (me_tup (ma_cons (me_var 2) (ma_cons (me_var 3) (ma_nil))))))))))
theorem ok_cut {P : Program} {w : World} {K : PySem.W.Frag} {mg : Str → Option Value} {base : Heap} {cl : Str → Addr} (d : DefAt K mg "cut" (topS 10) ["table", "text"]) (z_len : mg "len" = none) (x_NoText : ExC1 K mg "NoText" (cl "NoText")) (F_is_text : FnG P w K mg base ⟨K, cl⟩ "is_text" 1 2 m_is_text) (F_longest : FnG P w K mg base ⟨K, cl⟩ "longest" 1 3 m_longest) : FnG P w K mg base ⟨K, cl⟩ "cut" 2 2 m_cut := d.fn fun f fd F => okf_cut F z_len x_NoText F_is_text F_longest
/-! _law_tongue -/
noncomputable def b__law_tongue_1 : MS := msCons (msSet 4 (mCall 2 (m__law_draw) (mCons (mVar 0) (mCons (mB bLen (mCons (mVar 1) (mNil))) (mNil)))))
    (msCons (msAug 2 dIAdd (mOp dIx (mVar 1) (mVar 4)))
    (msSet 1 (mFz (mOp dAdd (mFz (mSlice (mVar 1) (moNone) (moSome (mVar 4)))) (mFz (mSlice (mVar 1) (moSome (mOp dAdd (mVar 4) (mC (.int 1)))) (moNone)))))))
noncomputable def m__law_tongue : MF := fnM 5 (msCons (msSet 1 (mCall 0 (m__law_signs) mNil))
    (msCons (msSet 2 (mC (.str [])))
    (msCons (msFor (iRange1 (mCons (mOp dAdd (mC (.int 1)) (mCall 2 (m__law_draw) (mCons (mVar 0) (mCons (mC (.int 6)) (mNil))))) (mNil))) (gSet 3) b__law_tongue_1)
    (msRet (mVar 2)))))
theorem sc__law_tongue : FnScope ["_law_left", "_law_rest", "_law_told", "_law_k", "_law_at"] ["_law_left"] (defScope (topS 17)) := ⟨rfl, rfl, rfl, by decide +kernel, rfl, by decide +kernel, by decide +kernel⟩
theorem okf__law_tongue {P : Program} {w : World} {K : PySem.W.Frag} {mg : Str → Option Value} {base : Heap} {cl : Str → Addr} {f : Addr} {fd : FuncData} (F : Fun K "_law_tongue" "_law_tongue" (topS 17) f fd) (z_range : mg "range" = none) (z_len : mg "len" = none) (F__law_signs : FnG P w K mg base ⟨K, cl⟩ "_law_signs" 1 0 m__law_signs) (F__law_draw : FnG P w K mg base ⟨K, cl⟩ "_law_draw" 1 2 m__law_draw) : FnOk P w K mg base (L2.CX P w) 2 f fd ["_law_left"] (FSp ⟨K, cl⟩ 1 m__law_tongue) :=
  fnPM F sc__law_tongue rfl fun cdv A outer s H E hr tk hp => mss_cons (ms_set 1 sc__law_tongue.nd (me_callG0 F__law_signs hr (by decide) tk))
    (mss_cons (ms_set 2 sc__law_tongue.nd (me_str []))
    (mss_cons (ms_for rfl hp (mi_range1 (ma_cons (me_add rfl (me_int) (me_callG F__law_draw hr (by decide) tk (ma_cons (me_var 0) (ma_cons (me_int) (ma_nil))))) (ma_nil)) z_range) (mg_name 3 sc__law_tongue.nd) (mss_cons (ms_set 4 sc__law_tongue.nd (me_callG F__law_draw hr (by decide) tk (ma_cons (me_var 0) (ma_cons (me_callB call_lenA bLen_ok z_len (by decide +kernel) (ma_cons (me_var 1) (ma_nil))) (ma_nil)))))
    (mss_cons (ms_aug 2 sc__law_tongue.nd iop_addA iadd_ok (me_ix rfl (me_var 1) (me_var 4)))
    (mss_one (ms_set 1 sc__law_tongue.nd (me_fz (me_add rfl (me_fz (me_slice rfl (me_var 1) (moN) (moS (me_var 4)))) (me_fz (me_slice rfl (me_var 1) (moS (me_add rfl (me_var 4) (me_int))) (moN))))))))))
    (mss_one (ms_ret (me_var 2)))))
theorem ok__law_tongue {P : Program} {w : World} {K : PySem.W.Frag} {mg : Str → Option Value} {base : Heap} {cl : Str → Addr} (d : DefAt K mg "_law_tongue" (topS 17) ["_law_left"]) (z_range : mg "range" = none) (z_len : mg "len" = none) (F__law_signs : FnG P w K mg base ⟨K, cl⟩ "_law_signs" 1 0 m__law_signs) (F__law_draw : FnG P w K mg base ⟨K, cl⟩ "_law_draw" 1 2 m__law_draw) : FnG P w K mg base ⟨K, cl⟩ "_law_tongue" 2 1 m__law_tongue := d.fn fun f fd F => okf__law_tongue F z_range z_len F__law_signs F__law_draw
/-! _law_rooms -/
noncomputable def b__law_rooms_1 : MS := msExpr (mMeth "list" fAppend (mVar 3) (mCons (mIf (mTb (mOp dLt (mCall 2 (m__law_draw) (mCons (mVar 0) (mCons (mC (.int 5)) (mNil)))) (mC (.int 2)))) (mCall 2 (m__law_draw) (mCons (mVar 0) (mCons (mC (.int 6)) (mNil)))) (mNeg (mC (.int 1)))) (mNil)))
noncomputable def e__law_rooms_2 : ME := mCall 2 (m__law_draw) (mCons (mVar 0) (mCons (mVar 2) (mNil)))
noncomputable def e__law_rooms_3 : ME := mIf (mAnd (mTb (mOp dLt (mOp dIx (mVar 3) (mVar 9)) (mC (.int 0)))) (mTb (mOp dLe (mVar 9) (mVar 4)))) (mOp dSub (mVar 2) (mC (.int 1))) (mVar 9)
noncomputable def e__law_rooms_4 : ME := mVar 4
noncomputable def b__law_rooms_5 : MS := msCons (msSet 7 (mFz (mLc (iSeq (mVar 1)) (gSet 8) mYes e__law_rooms_2 [8])))
    (msCons (msIf (mTb (mOp dGt (mVar 5) (mC (.int 0)))) (msSet 7 (mFz (mLc (iSeq (mVar 7)) (gSet 9) mYes e__law_rooms_3 [9]))) (msNil))
    (msCons (msIf (mAnd (mTb (mOp (dEq false) (mVar 5) (mC (.int 1)))) (mTb (mOp (dEq false) (mVar 4) (mOp dSub (mVar 2) (mC (.int 1)))))) (msSet 7 (mFz (mLc (iSeq (mVar 7)) (gSet 9) mYes e__law_rooms_4 [9]))) (msNil))
    (msExpr (mMeth "list" fAppend (mVar 6) (mCons (mVar 7) (mNil))))))
noncomputable def m__law_rooms : MF := fnM 10 (msCons (msSet 3 (mLst (mCons (mNeg (mC (.int 1))) (mNil))))
    (msCons (msFor (iRange2 (mCons (mC (.int 1)) (mCons (mVar 2) (mNil)))) (gSet 4) b__law_rooms_1)
    (msCons (msSet 5 (mCall 2 (m__law_draw) (mCons (mVar 0) (mCons (mC (.int 3)) (mNil)))))
    (msCons (msSet 6 (mLst (mNil)))
    (msCons (msFz 3 (msFor (iRange1 (mCons (mVar 2) (mNil))) (gSet 4) b__law_rooms_5))
    (msFz 6 (msFz 3 (msRet (mTup (mCons (mVar 6) (mCons (mVar 3) (mNil))))))))))))
theorem sc__law_rooms : FnScope ["_law_left", "_law_tongue_here", "_law_many", "_law_kinds", "_law_room", "_law_manner", "_law_goes", "_law_row", "_law_sign", "_law_to"] ["_law_left", "_law_tongue_here", "_law_many"] (defScope (topS 18)) := ⟨rfl, rfl, rfl, by decide +kernel, rfl, by decide +kernel, by decide +kernel⟩
theorem okf__law_rooms {P : Program} {w : World} {K : PySem.W.Frag} {mg : Str → Option Value} {base : Heap} {cl : Str → Addr} {f : Addr} {fd : FuncData} (F : Fun K "_law_rooms" "_law_rooms" (topS 18) f fd) (z_range : mg "range" = none) (F__law_draw : FnG P w K mg base ⟨K, cl⟩ "_law_draw" 1 2 m__law_draw) : FnOk P w K mg base (L2.CX P w) 2 f fd ["_law_left", "_law_tongue_here", "_law_many"] (FSp ⟨K, cl⟩ 3 m__law_rooms) :=
  fnPM F sc__law_rooms rfl fun cdv A outer s H E hr tk hp => mss_cons (ms_set 3 sc__law_rooms.nd (me_lst (ma_cons (me_neg (me_int)) (ma_nil))))
    (mss_cons (ms_for rfl hp (mi_range2 (ma_cons (me_int) (ma_cons (me_var 2) (ma_nil))) z_range) (mg_name 4 sc__law_rooms.nd) (mss_one (ms_expr (me_meth rfl PySem.F.plainAttrs_list PySem.F.slot_list_append PySem.F.type_list_append mt_append fAppend_ok (me_var 3) (ma_cons (me_ifExp (mt_cmp op_lt opS_C (me_callG F__law_draw hr (by decide) tk (ma_cons (me_var 0) (ma_cons (me_int) (ma_nil)))) (me_int)) (me_callG F__law_draw hr (by decide) tk (ma_cons (me_var 0) (ma_cons (me_int) (ma_nil)))) (me_neg (me_int))) (ma_nil))))))
    (mss_cons (ms_set 5 sc__law_rooms.nd (me_callG F__law_draw hr (by decide) tk (ma_cons (me_var 0) (ma_cons (me_int) (ma_nil)))))
    (mss_cons (ms_set 6 sc__law_rooms.nd (me_lst (ma_nil)))
    (mss_cons (ms_fz 3 (ms_for rfl hp (mi_range1 (ma_cons (me_var 2) (ma_nil)) z_range) (mg_name 4 sc__law_rooms.nd) (mss_cons (ms_setF (ms_setLc 7 (own := [("_law_sign", 8)]) rfl sc__law_rooms.nd (mi_seq rfl (me_var 1)) (blkOk_by (N := ["_law_left", "_law_tongue_here", "_law_many", "_law_kinds", "_law_room", "_law_manner", "_law_goes", "_law_row", "_law_sign", "_law_to"]) (sc := defScope (topS 18)) (by decide +kernel)) (fun _ _ _ _ _ => mg_name 8 sc__law_rooms.nd) (fun _ _ _ _ _ => mts_nil) (fun _ _ _ _ _ => me_callG F__law_draw hr (by decide) takes0 (ma_cons (me_var 0) (ma_cons (me_var 2) (ma_nil)))) (sw_true rfl rfl rfl (by decide +kernel))))
    (mss_cons (ms_if (mt_cmp op_gt opS_C (me_var 5) (me_int)) (mss_one (ms_setF (ms_setLc 7 (own := [("_law_to", 9)]) rfl sc__law_rooms.nd (mi_seq rfl (me_var 7)) (blkOk_by (N := ["_law_left", "_law_tongue_here", "_law_many", "_law_kinds", "_law_room", "_law_manner", "_law_goes", "_law_row", "_law_sign", "_law_to"]) (sc := defScope (topS 18)) (by decide +kernel)) (fun _ _ _ _ _ => mg_name 9 sc__law_rooms.nd) (fun _ _ _ _ _ => mts_nil) (fun _ _ _ _ _ => me_ifExp (mt_w (mw_and (mt_cmp op_lt opS_C (me_ix rfl (me_var 3) (me_var 9)) (me_int)) (mw_and1 (mt_cmp op_le opS_C (me_var 9) (me_var 4))))) (me_sub (me_var 2) (me_int)) (me_var 9)) (sw_true rfl rfl rfl (by decide +kernel))))) (mss_nil))
    (mss_cons (ms_if (mt_w (mw_and (mt_cmp (op_eqP hr.units) (dEq_ok rfl) (me_var 5) (me_int)) (mw_and1 (mt_cmp (op_eqP hr.units) (dEq_ok rfl) (me_var 4) (me_sub (me_var 2) (me_int)))))) (mss_one (ms_setF (ms_setLc 7 (own := [("_law_to", 9)]) rfl sc__law_rooms.nd (mi_seq rfl (me_var 7)) (blkOk_by (N := ["_law_left", "_law_tongue_here", "_law_many", "_law_kinds", "_law_room", "_law_manner", "_law_goes", "_law_row", "_law_sign", "_law_to"]) (sc := defScope (topS 18)) (by decide +kernel)) (fun _ _ _ _ _ => mg_name 9 sc__law_rooms.nd) (fun _ _ _ _ _ => mts_nil) (fun _ _ _ _ _ => me_var 4) (sw_true rfl rfl rfl (by decide +kernel))))) (mss_nil))
    (mss_one (ms_expr (me_meth rfl PySem.F.plainAttrs_list PySem.F.slot_list_append PySem.F.type_list_append mt_append fAppend_ok (me_var 6) (ma_cons (me_var 7) (ma_nil))))))))))
    (mss_one (ms_fz 6 (ms_fz 3 (ms_ret (me_tup (ma_cons (me_var 6) (ma_cons (me_var 3) (ma_nil))))))))))))
theorem ok__law_rooms {P : Program} {w : World} {K : PySem.W.Frag} {mg : Str → Option Value} {base : Heap} {cl : Str → Addr} (d : DefAt K mg "_law_rooms" (topS 18) ["_law_left", "_law_tongue_here", "_law_many"]) (z_range : mg "range" = none) (F__law_draw : FnG P w K mg base ⟨K, cl⟩ "_law_draw" 1 2 m__law_draw) : FnG P w K mg base ⟨K, cl⟩ "_law_rooms" 2 3 m__law_rooms := d.fn fun f fd F => okf__law_rooms F z_range F__law_draw
/-! _law_text -/
noncomputable def e__law_text_1 : ME := mOp dIx (mVar 1) (mCall 2 (m__law_draw) (mCons (mVar 0) (mCons (mB bLen (mCons (mVar 1) (mNil))) (mNil))))
noncomputable def m__law_text : MF := fnM 4 (msCons (msSet 2 (mCall 2 (m__law_draw) (mCons (mVar 0) (mCons (mC (.int 25)) (mNil)))))
    (msCons (msIf (mTb (mOp (dEq false) (mCall 2 (m__law_draw) (mCons (mVar 0) (mCons (mC (.int 6)) (mNil)))) (mC (.int 0)))) (msSet 2 (mCall 2 (m__law_draw) (mCons (mVar 0) (mCons (mC (.int 241)) (mNil))))) (msNil))
    (msRet (mMeth "str" fJoin (mC (.str [])) (mCons (mFz (mLc (iRange1 (mCons (mVar 2) (mNil))) (gSet 3) mYes e__law_text_1 [3])) (mNil))))))
theorem sc__law_text : FnScope ["_law_left", "_law_tongue_here", "_law_many", "_law_k"] ["_law_left", "_law_tongue_here"] (defScope (topS 20)) := ⟨rfl, rfl, rfl, by decide +kernel, rfl, by decide +kernel, by decide +kernel⟩
theorem okf__law_text {P : Program} {w : World} {K : PySem.W.Frag} {mg : Str → Option Value} {base : Heap} {cl : Str → Addr} {f : Addr} {fd : FuncData} (F : Fun K "_law_text" "_law_text" (topS 20) f fd) (z_range : mg "range" = none) (z_len : mg "len" = none) (F__law_draw : FnG P w K mg base ⟨K, cl⟩ "_law_draw" 1 2 m__law_draw) : FnOk P w K mg base (L2.CX P w) 2 f fd ["_law_left", "_law_tongue_here"] (FSp ⟨K, cl⟩ 2 m__law_text) :=
  fnPM F sc__law_text rfl fun cdv A outer s H E hr tk hp => mss_cons (ms_set 2 sc__law_text.nd (me_callG F__law_draw hr (by decide) tk (ma_cons (me_var 0) (ma_cons (me_int) (ma_nil)))))
    (mss_cons (ms_if (mt_cmp (op_eqP hr.units) (dEq_ok rfl) (me_callG F__law_draw hr (by decide) tk (ma_cons (me_var 0) (ma_cons (me_int) (ma_nil)))) (me_int)) (mss_one (ms_set 2 sc__law_text.nd (me_callG F__law_draw hr (by decide) tk (ma_cons (me_var 0) (ma_cons (me_int) (ma_nil)))))) (mss_nil))
    (mss_one (ms_ret (me_meth rfl PySem.F.plainAttrs_str PySem.F.slot_str_join PySem.F.type_str_join mt_join fJoin_ok (me_str []) (ma_cons (me_fz (me_lc (own := [("_law_k", 3)]) rfl sc__law_text.nd (mi_range1 (ma_cons (me_var 2) (ma_nil)) z_range) (blkOk_by (N := ["_law_left", "_law_tongue_here", "_law_many", "_law_k"]) (sc := defScope (topS 20)) (by decide +kernel)) (fun _ _ _ _ _ => mg_name 3 sc__law_text.nd) (fun _ _ _ _ _ => mts_nil) (fun _ _ _ _ _ => me_ix rfl (me_var 1) (me_callG F__law_draw hr (by decide) takes0 (ma_cons (me_var 0) (ma_cons (me_callB call_lenA bLen_ok z_len (by decide +kernel) (ma_cons (me_var 1) (ma_nil))) (ma_nil))))))) (ma_nil))))))
theorem ok__law_text {P : Program} {w : World} {K : PySem.W.Frag} {mg : Str → Option Value} {base : Heap} {cl : Str → Addr} (d : DefAt K mg "_law_text" (topS 20) ["_law_left", "_law_tongue_here"]) (z_range : mg "range" = none) (z_len : mg "len" = none) (F__law_draw : FnG P w K mg base ⟨K, cl⟩ "_law_draw" 1 2 m__law_draw) : FnG P w K mg base ⟨K, cl⟩ "_law_text" 2 2 m__law_text := d.fn fun f fd F => okf__law_text F z_range z_len F__law_draw
/-! _law_cut -/
noncomputable def t__law_cut_1 : MT := mTb (mOp (dIsN true) (mVar 4) (mC .non))
noncomputable def b__law_cut_2 : MS := msCons (msExpr (mMeth "list" fAppend (mVar 2) (mCons (mTup (mCons (mOp dIx (mVar 4) (mC (.int 0))) (mCons (mVar 3) (mCons (mOp dIx (mVar 4) (mC (.int 1))) (mNil))))) (mNil))))
    (msCons (msSet 3 (mOp dIx (mVar 4) (mC (.int 1))))
    (msSet 4 (mCall 3 (m__law_first) (mCons (mVar 0) (mCons (mVar 1) (mCons (mVar 3) (mNil)))))))
noncomputable def m__law_cut : MF := fnM 5 (msCons (msSet 2 (mLst (mNil)))
    (msCons (msSet 3 (mC (.int 0)))
    (msCons (msSet 4 (mCall 3 (m__law_first) (mCons (mVar 0) (mCons (mVar 1) (mCons (mVar 3) (mNil))))))
    (msCons (msWhile t__law_cut_1 b__law_cut_2)
    (msFz 2 (msRet (mTup (mCons (mVar 2) (mCons (mVar 3) (mNil))))))))))
theorem sc__law_cut : FnScope ["_law_table_here", "_law_text_here", "_law_told", "_law_place", "_law_found"] ["_law_table_here", "_law_text_here"] (defScope (topS 22)) := ⟨rfl, rfl, rfl, by decide +kernel, rfl, by decide +kernel, by decide +kernel⟩
theorem okf__law_cut {P : Program} {w : World} {K : PySem.W.Frag} {mg : Str → Option Value} {base : Heap} {cl : Str → Addr} {f : Addr} {fd : FuncData} (F : Fun K "_law_cut" "_law_cut" (topS 22) f fd) (F__law_first : FnG P w K mg base ⟨K, cl⟩ "_law_first" 1 3 m__law_first) : FnOk P w K mg base (L2.CX P w) 2 f fd ["_law_table_here", "_law_text_here"] (FSp ⟨K, cl⟩ 2 m__law_cut) :=
  fnPM F sc__law_cut rfl fun cdv A outer s H E hr tk hp => mss_cons (ms_set 2 sc__law_cut.nd (me_lst (ma_nil)))
    (mss_cons (ms_set 3 sc__law_cut.nd (me_int))
    (mss_cons (ms_set 4 sc__law_cut.nd (me_callG F__law_first hr (by decide) tk (ma_cons (me_var 0) (ma_cons (me_var 1) (ma_cons (me_var 3) (ma_nil))))))
    (mss_cons (ms_while hp (mt_cmp op_isnotA dIsnot_ok (me_var 4) (me_non)) (mss_cons (ms_expr (me_meth rfl PySem.F.plainAttrs_list PySem.F.slot_list_append PySem.F.type_list_append mt_append fAppend_ok (me_var 2) (ma_cons (me_tup (ma_cons (me_ix rfl (me_var 4) (me_int)) (ma_cons (me_var 3) (ma_cons (me_ix rfl (me_var 4) (me_int)) (ma_nil))))) (ma_nil))))
    (mss_cons (ms_set 3 sc__law_cut.nd (me_ix rfl (me_var 4) (me_int)))
    (mss_one (ms_set 4 sc__law_cut.nd (me_callG F__law_first hr (by decide) tk (ma_cons (me_var 0) (ma_cons (me_var 1) (ma_cons (me_var 3) (ma_nil))))))))))
    (mss_one (ms_fz 2 (ms_ret (me_tup (ma_cons (me_var 2) (ma_cons (me_var 3) (ma_nil))))))))))
theorem ok__law_cut {P : Program} {w : World} {K : PySem.W.Frag} {mg : Str → Option Value} {base : Heap} {cl : Str → Addr} (d : DefAt K mg "_law_cut" (topS 22) ["_law_table_here", "_law_text_here"]) (F__law_first : FnG P w K mg base ⟨K, cl⟩ "_law_first" 1 3 m__law_first) : FnG P w K mg base ⟨K, cl⟩ "_law_cut" 2 2 m__law_cut := d.fn fun f fd F => okf__law_cut F F__law_first
/-! _law_piece_spoilt -/
noncomputable def e__law_piece_spoilt_1 : ME := mVar 4
noncomputable def m__law_piece_spoilt : MF := fnM 5 (msCons (msSet 3 (mCall 2 (m__law_draw) (mCons (mVar 0) (mCons (mC (.int 3)) (mNil)))))
    (msCons (msIf (mTb (mOp (dEq false) (mVar 2) (mC (.int 0)))) (msRet (mOp dAdd (mOp dAdd (mFz (mSlice (mVar 1) (moNone) (moSome (mVar 3)))) (mTup (mCons (mOp dAdd (mOp dIx (mVar 1) (mVar 3)) (mC (.int 1))) (mNil)))) (mFz (mSlice (mVar 1) (moSome (mOp dAdd (mVar 3) (mC (.int 1)))) (moNone))))) (msNil))
    (msCons (msIf (mTb (mOp (dEq false) (mVar 2) (mC (.int 1)))) (msRet (mOp dAdd (mOp dAdd (mFz (mSlice (mVar 1) (moNone) (moSome (mVar 3)))) (mTup (mCons (mOp dSub (mOp dIx (mVar 1) (mVar 3)) (mC (.int 1))) (mNil)))) (mFz (mSlice (mVar 1) (moSome (mOp dAdd (mVar 3) (mC (.int 1)))) (moNone))))) (msNil))
    (msCons (msIf (mTb (mOp (dEq false) (mVar 2) (mC (.int 2)))) (msRet (mOp dAdd (mOp dAdd (mFz (mSlice (mVar 1) (moNone) (moSome (mVar 3)))) (mTup (mCons (mOp (dEq false) (mOp dIx (mVar 1) (mVar 3)) (mC (.int 1))) (mNil)))) (mFz (mSlice (mVar 1) (moSome (mOp dAdd (mVar 3) (mC (.int 1)))) (moNone))))) (msNil))
    (msCons (msIf (mTb (mOp (dEq false) (mVar 2) (mC (.int 3)))) (msRet (mOp dAdd (mOp dAdd (mFz (mSlice (mVar 1) (moNone) (moSome (mVar 3)))) (mTup (mCons (mOp dIx (mTup (mCons (mC .non) (mCons (mFz (mLst (mCons (mOp dIx (mVar 1) (mVar 3)) (mNil)))) (mCons (mFz (mDict [])) (mNil))))) (mCall 2 (m__law_draw) (mCons (mVar 0) (mCons (mC (.int 3)) (mNil))))) (mNil)))) (mFz (mSlice (mVar 1) (moSome (mOp dAdd (mVar 3) (mC (.int 1)))) (moNone))))) (msNil))
    (msCons (msIf (mTb (mOp (dEq false) (mVar 2) (mC (.int 4)))) (msRet (mOp dAdd (mVar 1) (mTup (mCons (mC (.int 0)) (mNil))))) (msNil))
    (msCons (msIf (mTb (mOp (dEq false) (mVar 2) (mC (.int 5)))) (msRet (mFz (mLc (iSeq (mVar 1)) (gSet 4) mYes e__law_piece_spoilt_1 [4]))) (msNil))
    (msRet (mOp dIx (mTup (mCons (mFz (mSlice (mVar 1) (moNone) (moSome (mC (.int 2))))) (mCons (mC .non) (mCons (mC (.int 7)) (mNil))))) (mVar 3))))))))))
theorem sc__law_piece_spoilt : FnScope ["_law_left", "_law_piece", "_law_which", "_law_at", "_law_part"] ["_law_left", "_law_piece", "_law_which"] (defScope (topS 24)) := ⟨rfl, rfl, rfl, by decide +kernel, rfl, by decide +kernel, by decide +kernel⟩
theorem okf__law_piece_spoilt {P : Program} {w : World} {K : PySem.W.Frag} {mg : Str → Option Value} {base : Heap} {cl : Str → Addr} {f : Addr} {fd : FuncData} (F : Fun K "_law_piece_spoilt" "_law_piece_spoilt" (topS 24) f fd) (F__law_draw : FnG P w K mg base ⟨K, cl⟩ "_law_draw" 1 2 m__law_draw) : FnOk P w K mg base (L2.CX P w) 2 f fd ["_law_left", "_law_piece", "_law_which"] (FSp ⟨K, cl⟩ 3 m__law_piece_spoilt) :=
  fnPM F sc__law_piece_spoilt rfl fun cdv A outer s H E hr tk hp => mss_cons (ms_set 3 sc__law_piece_spoilt.nd (me_callG F__law_draw hr (by decide) tk (ma_cons (me_var 0) (ma_cons (me_int) (ma_nil)))))
    (mss_cons (ms_if (mt_cmp (op_eqP hr.units) (dEq_ok rfl) (me_var 2) (me_int)) (mss_one (ms_ret (me_add rfl (me_add rfl (me_fz (me_slice rfl (me_var 1) (moN) (moS (me_var 3)))) (me_tup (ma_cons (me_add rfl (me_ix rfl (me_var 1) (me_var 3)) (me_int)) (ma_nil)))) (me_fz (me_slice rfl (me_var 1) (moS (me_add rfl (me_var 3) (me_int))) (moN)))))) (mss_nil))
    (mss_cons (ms_if (mt_cmp (op_eqP hr.units) (dEq_ok rfl) (me_var 2) (me_int)) (mss_one (ms_ret (me_add rfl (me_add rfl (me_fz (me_slice rfl (me_var 1) (moN) (moS (me_var 3)))) (me_tup (ma_cons (me_sub (me_ix rfl (me_var 1) (me_var 3)) (me_int)) (ma_nil)))) (me_fz (me_slice rfl (me_var 1) (moS (me_add rfl (me_var 3) (me_int))) (moN)))))) (mss_nil))
    (mss_cons (ms_if (mt_cmp (op_eqP hr.units) (dEq_ok rfl) (me_var 2) (me_int)) (mss_one (ms_ret (me_add rfl (me_add rfl (me_fz (me_slice rfl (me_var 1) (moN) (moS (me_var 3)))) (me_tup (ma_cons (me_cmp (op_eqP hr.units) (dEq_ok rfl) (me_ix rfl (me_var 1) (me_var 3)) (me_int)) (ma_nil)))) (me_fz (me_slice rfl (me_var 1) (moS (me_add rfl (me_var 3) (me_int))) (moN)))))) (mss_nil))
    (mss_cons (ms_if (mt_cmp (op_eqP hr.units) (dEq_ok rfl) (me_var 2) (me_int)) (mss_one (ms_ret (me_add rfl (me_add rfl (me_fz (me_slice rfl (me_var 1) (moN) (moS (me_var 3)))) (me_tup (ma_cons (me_ix rfl (me_tup (ma_cons (me_non) (ma_cons (me_fz (me_lst (ma_cons (me_ix rfl (me_var 1) (me_var 3)) (ma_nil)))) (ma_cons (me_fz (me_dict0)) (ma_nil))))) (me_callG F__law_draw hr (by decide) tk (ma_cons (me_var 0) (ma_cons (me_int) (ma_nil))))) (ma_nil)))) (me_fz (me_slice rfl (me_var 1) (moS (me_add rfl (me_var 3) (me_int))) (moN)))))) (mss_nil))
    (mss_cons (ms_if (mt_cmp (op_eqP hr.units) (dEq_ok rfl) (me_var 2) (me_int)) (mss_one (ms_ret (me_add rfl (me_var 1) (me_tup (ma_cons (me_int) (ma_nil)))))) (mss_nil))
    (mss_cons (ms_if (mt_cmp (op_eqP hr.units) (dEq_ok rfl) (me_var 2) (me_int)) (mss_one (ms_ret (me_fz (me_lc (own := [("_law_part", 4)]) rfl sc__law_piece_spoilt.nd (mi_seq rfl (me_var 1)) (blkOk_by (N := ["_law_left", "_law_piece", "_law_which", "_law_at", "_law_part"]) (sc := defScope (topS 24)) (by decide +kernel)) (fun _ _ _ _ _ => mg_name 4 sc__law_piece_spoilt.nd) (fun _ _ _ _ _ => mts_nil) (fun _ _ _ _ _ => me_var 4))))) (mss_nil))
    (mss_one (ms_ret (me_ix rfl (me_tup (ma_cons (me_fz (me_slice rfl (me_var 1) (moN) (moS (me_int)))) (ma_cons (me_non) (ma_cons (me_int) (ma_nil))))) (me_var 3))))))))))
theorem ok__law_piece_spoilt {P : Program} {w : World} {K : PySem.W.Frag} {mg : Str → Option Value} {base : Heap} {cl : Str → Addr} (d : DefAt K mg "_law_piece_spoilt" (topS 24) ["_law_left", "_law_piece", "_law_which"]) (F__law_draw : FnG P w K mg base ⟨K, cl⟩ "_law_draw" 1 2 m__law_draw) : FnG P w K mg base ⟨K, cl⟩ "_law_piece_spoilt" 2 3 m__law_piece_spoilt := d.fn fun f fd F => okf__law_piece_spoilt F F__law_draw
/-! _law_holds -/
noncomputable def b__law_holds_1 : MS := msIf (mOr (mNot (mTr (mCall 2 (m__law_numbers) (mCons (mOp dIx (mVar 0) (mVar 3)) (mCons (mC (.int 3)) (mNil)))))) (mTb (mOp (dEq true) (mOp dIx (mVar 0) (mVar 3)) (mOp dIx (mOp dIx (mVar 2) (mC (.int 0))) (mVar 3))))) (msRet (mC (.bl false))) (msNil)
noncomputable def m__law_holds : MF := fnM 4 (msCons (msIf (mOr (mNot (mTr (mCall 2 (m__law_numbers) (mCons (mTup (mCons (mVar 1) (mNil))) (mCons (mC (.int 1)) (mNil)))))) (mTb (mOp (dEq true) (mVar 1) (mOp dIx (mVar 2) (mC (.int 1)))))) (msRet (mC (.bl false))) (msNil))
    (msCons (msIf (mOr (mNot (mTr (mIs "list" (mVar 0)))) (mTb (mOp (dEq true) (mB bLen (mCons (mVar 0) (mNil))) (mB bLen (mCons (mOp dIx (mVar 2) (mC (.int 0))) (mNil)))))) (msRet (mC (.bl false))) (msNil))
    (msCons (msFor (iRange1 (mCons (mB bLen (mCons (mVar 0) (mNil))) (mNil))) (gSet 3) b__law_holds_1)
    (msRet (mC (.bl true))))))
theorem sc__law_holds : FnScope ["_law_pieces", "_law_place", "_law_due", "_law_k"] ["_law_pieces", "_law_place", "_law_due"] (defScope (topS 26)) := ⟨rfl, rfl, rfl, by decide +kernel, rfl, by decide +kernel, by decide +kernel⟩
theorem okf__law_holds {P : Program} {w : World} {K : PySem.W.Frag} {mg : Str → Option Value} {base : Heap} {cl : Str → Addr} {f : Addr} {fd : FuncData} (F : Fun K "_law_holds" "_law_holds" (topS 26) f fd) (z_isinstance : mg "isinstance" = none) (z_list : mg "list" = none) (z_len : mg "len" = none) (z_range : mg "range" = none) (F__law_numbers : FnG P w K mg base ⟨K, cl⟩ "_law_numbers" 1 2 m__law_numbers) : FnOk P w K mg base (L2.CX P w) 2 f fd ["_law_pieces", "_law_place", "_law_due"] (FSp ⟨K, cl⟩ 3 m__law_holds) :=
  fnPM F sc__law_holds rfl fun cdv A outer s H E hr tk hp => mss_cons (ms_if (mt_w (mw_or (mt_not (mt_val rfl (me_callG F__law_numbers hr (by decide) tk (ma_cons (me_tup (ma_cons (me_var 1) (ma_nil))) (ma_cons (me_int) (ma_nil)))))) (mw_or1 (mt_cmp (op_neP hr.units) (dNe_ok rfl) (me_var 1) (me_ix rfl (me_var 2) (me_int)))))) (mss_one (ms_ret (me_bl))) (mss_nil))
    (mss_cons (ms_if (mt_w (mw_or (mt_not (mt_val rfl (me_is rfl (me_var 0) z_isinstance z_list))) (mw_or1 (mt_cmp (op_neP hr.units) (dNe_ok rfl) (me_callB call_lenA bLen_ok z_len (by decide +kernel) (ma_cons (me_var 0) (ma_nil))) (me_callB call_lenA bLen_ok z_len (by decide +kernel) (ma_cons (me_ix rfl (me_var 2) (me_int)) (ma_nil))))))) (mss_one (ms_ret (me_bl))) (mss_nil))
    (mss_cons (ms_for rfl hp (mi_range1 (ma_cons (me_callB call_lenA bLen_ok z_len (by decide +kernel) (ma_cons (me_var 0) (ma_nil))) (ma_nil)) z_range) (mg_name 3 sc__law_holds.nd) (mss_one (ms_if (mt_w (mw_or (mt_not (mt_val rfl (me_callG F__law_numbers hr (by decide) tk (ma_cons (me_ix rfl (me_var 0) (me_var 3)) (ma_cons (me_int) (ma_nil)))))) (mw_or1 (mt_cmp (op_neP hr.units) (dNe_ok rfl) (me_ix rfl (me_var 0) (me_var 3)) (me_ix rfl (me_ix rfl (me_var 2) (me_int)) (me_var 3)))))) (mss_one (ms_ret (me_bl))) (mss_nil))))
    (mss_one (ms_ret (me_bl)))))
theorem ok__law_holds {P : Program} {w : World} {K : PySem.W.Frag} {mg : Str → Option Value} {base : Heap} {cl : Str → Addr} (d : DefAt K mg "_law_holds" (topS 26) ["_law_pieces", "_law_place", "_law_due"]) (z_isinstance : mg "isinstance" = none) (z_list : mg "list" = none) (z_len : mg "len" = none) (z_range : mg "range" = none) (F__law_numbers : FnG P w K mg base ⟨K, cl⟩ "_law_numbers" 1 2 m__law_numbers) : FnG P w K mg base ⟨K, cl⟩ "_law_holds" 2 3 m__law_holds := d.fn fun f fd F => okf__law_holds F z_isinstance z_list z_len z_range F__law_numbers
/-! cut_holds -/
noncomputable def b_cut_holds_1 : MS := msIf (mOr (mNot (mTr (mCall 1 (m_is_numbers) (mCons (mOp dIx (mVar 2) (mVar 6)) (mNil))))) (mTb (mOp (dEq true) (mOp dIx (mVar 2) (mVar 6)) (mOp dIx (mVar 4) (mVar 6))))) (msRet (mC (.bl false))) (msNil)
noncomputable def m_cut_holds : MF := fnM 7 (msCons (msSetT (gSets [4, 5]) (mCall 2 (m_cut) (mCons (mVar 0) (mCons (mVar 1) (mNil)))))
    (msCons (msIf (mOr (mNot (mTr (mCall 1 (m_is_number) (mCons (mVar 3) (mNil))))) (mTb (mOp (dEq true) (mVar 3) (mVar 5)))) (msRet (mC (.bl false))) (msNil))
    (msCons (msIf (mOr (mNot (mTr (mIs "list" (mVar 2)))) (mTb (mOp (dEq true) (mB bLen (mCons (mVar 2) (mNil))) (mB bLen (mCons (mVar 4) (mNil)))))) (msRet (mC (.bl false))) (msNil))
    (msCons (msFor (iRange1 (mCons (mB bLen (mCons (mVar 4) (mNil))) (mNil))) (gSet 6) b_cut_holds_1)
    (msRet (mC (.bl true)))))))
theorem sc_cut_holds : FnScope ["table", "text", "pieces", "place", "due", "end", "k"] ["table", "text", "pieces", "place"] (defScope (topS 11)) := ⟨rfl, rfl, rfl, by decide +kernel, rfl, by decide +kernel, by decide +kernel⟩
theorem okf_cut_holds {P : Program} {w : World} {K : PySem.W.Frag} {mg : Str → Option Value} {base : Heap} {cl : Str → Addr} {f : Addr} {fd : FuncData} (F : Fun K "cut_holds" "cut_holds" (topS 11) f fd) (z_isinstance : mg "isinstance" = none) (z_list : mg "list" = none) (z_len : mg "len" = none) (z_range : mg "range" = none) (F_cut : FnG P w K mg base ⟨K, cl⟩ "cut" 2 2 m_cut) (F_is_number : FnG P w K mg base ⟨K, cl⟩ "is_number" 1 1 m_is_number) (F_is_numbers : FnG P w K mg base ⟨K, cl⟩ "is_numbers" 2 1 m_is_numbers) : FnOk P w K mg base (L2.CX P w) 3 f fd ["table", "text", "pieces", "place"] (FSp ⟨K, cl⟩ 4 m_cut_holds) :=
  fnPM F sc_cut_holds rfl fun cdv A outer s H E hr tk hp => mss_cons (ms_setT (me_callG F_cut hr (by decide) tk (ma_cons (me_var 0) (ma_cons (me_var 1) (ma_nil)))) (mg_tup rfl rfl (.cons (pg_name (i := 4) sc_cut_holds.nd rfl (by first | exact Or.inl rfl | exact Or.inr rfl)) (.cons (pg_name (i := 5) sc_cut_holds.nd rfl (by first | exact Or.inl rfl | exact Or.inr rfl)) (.nil) rfl) rfl)))
    (mss_cons (ms_if (mt_w (mw_or (mt_not (mt_val rfl (me_callG F_is_number hr (by decide) tk (ma_cons (me_var 3) (ma_nil))))) (mw_or1 (mt_cmp (op_neP hr.units) (dNe_ok rfl) (me_var 3) (me_var 5))))) (mss_one (ms_ret (me_bl))) (mss_nil))
    (mss_cons (ms_if (mt_w (mw_or (mt_not (mt_val rfl (me_is rfl (me_var 2) z_isinstance z_list))) (mw_or1 (mt_cmp (op_neP hr.units) (dNe_ok rfl) (me_callB call_lenA bLen_ok z_len (by decide +kernel) (ma_cons (me_var 2) (ma_nil))) (me_callB call_lenA bLen_ok z_len (by decide +kernel) (ma_cons (me_var 4) (ma_nil))))))) (mss_one (ms_ret (me_bl))) (mss_nil))
    (mss_cons (ms_for rfl hp (mi_range1 (ma_cons (me_callB call_lenA bLen_ok z_len (by decide +kernel) (ma_cons (me_var 4) (ma_nil))) (ma_nil)) z_range) (mg_name 6 sc_cut_holds.nd) (mss_one (ms_if (mt_w (mw_or (mt_not (mt_val rfl (me_callG F_is_numbers hr (by decide) tk (ma_cons (me_ix rfl (me_var 2) (me_var 6)) (ma_nil))))) (mw_or1 (mt_cmp (op_neP hr.units) (dNe_ok rfl) (me_ix rfl (me_var 2) (me_var 6)) (me_ix rfl (me_var 4) (me_var 6)))))) (mss_one (ms_ret (me_bl))) (mss_nil))))
    (mss_one (ms_ret (me_bl))))))
theorem ok_cut_holds {P : Program} {w : World} {K : PySem.W.Frag} {mg : Str → Option Value} {base : Heap} {cl : Str → Addr} (d : DefAt K mg "cut_holds" (topS 11) ["table", "text", "pieces", "place"]) (z_isinstance : mg "isinstance" = none) (z_list : mg "list" = none) (z_len : mg "len" = none) (z_range : mg "range" = none) (F_cut : FnG P w K mg base ⟨K, cl⟩ "cut" 2 2 m_cut) (F_is_number : FnG P w K mg base ⟨K, cl⟩ "is_number" 1 1 m_is_number) (F_is_numbers : FnG P w K mg base ⟨K, cl⟩ "is_numbers" 2 1 m_is_numbers) : FnG P w K mg base ⟨K, cl⟩ "cut_holds" 3 4 m_cut_holds := d.fn fun f fd F => okf_cut_holds F z_isinstance z_list z_len z_range F_cut F_is_number F_is_numbers
/-! _law_table -/
noncomputable def b__law_table_1 : MS := msIf (mTb (mOp (dIn true) (mVar 8) (mVar 6))) (msExpr (mMeth "list" fAppend (mVar 6) (mCons (mVar 8) (mNil)))) (msNil)
noncomputable def t__law_table_2 : MT := mTb (mOp dLt (mVar 7) (mB bLen (mCons (mVar 6) (mNil))))
noncomputable def b__law_table_3 : MS := msCons (msFor (iSeq (mOp dIx (mVar 4) (mOp dIx (mVar 6) (mVar 7)))) (gSet 8) b__law_table_1)
    (msAug 7 dIAdd (mC (.int 1)))
noncomputable def e__law_table_4 : ME := mOrE (mMeth "str" fIndex (mVar 6) (mCons (mVar 8) (mNil))) (mOrE (mMeth "list" fIndexL (mVar 6) (mCons (mVar 8) (mNil))) (mMeth "list" fIndexD (mVar 6) (mCons (mVar 8) (mNil))))
noncomputable def e__law_table_5 : ME := mB bTupleX (mCons (mFz (mLc (iSeq (mOp dIx (mVar 4) (mVar 10))) (gSet 8) mYes e__law_table_4 [8])) (mNil))
noncomputable def e__law_table_6 : ME := mOp dIx (mVar 5) (mVar 10)
noncomputable def m__law_table : MF := fnM 11 (msCons (msSet 2 (mCall 1 (m__law_tongue) (mCons (mVar 0) (mNil))))
    (msCons (msSet 3 (mOp dAdd (mC (.int 2)) (mCall 2 (m__law_draw) (mCons (mVar 0) (mCons (mC (.int 7)) (mNil))))))
    (msCons (msIf (mTb (mOp (dEq false) (mCall 2 (m__law_draw) (mCons (mVar 0) (mCons (mC (.int 6)) (mNil)))) (mC (.int 0)))) (msSet 3 (mOp dAdd (mC (.int 1)) (mCall 2 (m__law_draw) (mCons (mVar 0) (mCons (mVar 1) (mNil)))))) (msNil))
    (msCons (msSetT (gSets [4, 5]) (mCall 3 (m__law_rooms) (mCons (mVar 0) (mCons (mVar 2) (mCons (mB bMin2 (mCons (mVar 3) (mCons (mVar 1) (mNil)))) (mNil))))))
    (msCons (msSet 6 (mLst (mCons (mC (.int 0)) (mNil))))
    (msCons (msSet 7 (mC (.int 0)))
    (msCons (msWhile t__law_table_2 b__law_table_3)
    (msCons (msFz 6 (msSet 6 (mFz (mB bSorted (mCons (mVar 6) (mNil))))))
    (msCons (msSet 9 (mB bTupleX (mCons (mFz (mLc (iSeq (mVar 6)) (gSet 10) mYes e__law_table_5 [10])) (mNil))))
    (msRet (mTup (mCons (mVar 2) (mCons (mVar 9) (mCons (mB bTupleX (mCons (mFz (mLc (iSeq (mVar 6)) (gSet 10) mYes e__law_table_6 [10])) (mNil))) (mNil)))))))))))))))
theorem sc__law_table : FnScope ["_law_left", "_law_most", "_law_tongue_here", "_law_many", "_law_goes", "_law_kinds", "_law_met", "_law_at", "_law_to", "_law_rows", "_law_room"] ["_law_left", "_law_most"] (defScope (topS 19)) := ⟨rfl, rfl, rfl, by decide +kernel, rfl, by decide +kernel, by decide +kernel⟩
theorem okf__law_table {P : Program} {w : World} {K : PySem.W.Frag} {mg : Str → Option Value} {base : Heap} {cl : Str → Addr} {f : Addr} {fd : FuncData} (F : Fun K "_law_table" "_law_table" (topS 19) f fd) (z_min : mg "min" = none) (z_len : mg "len" = none) (z_sorted : mg "sorted" = none) (z_tuple : mg "tuple" = none) (F__law_tongue : FnG P w K mg base ⟨K, cl⟩ "_law_tongue" 2 1 m__law_tongue) (F__law_draw : FnG P w K mg base ⟨K, cl⟩ "_law_draw" 1 2 m__law_draw) (F__law_rooms : FnG P w K mg base ⟨K, cl⟩ "_law_rooms" 2 3 m__law_rooms) : FnOk P w K mg base (L2.CX P w) 3 f fd ["_law_left", "_law_most"] (FSp ⟨K, cl⟩ 2 m__law_table) :=
  fnPM F sc__law_table rfl fun cdv A outer s H E hr tk hp => mss_cons (ms_set 2 sc__law_table.nd (me_callG F__law_tongue hr (by decide) tk (ma_cons (me_var 0) (ma_nil))))
    (mss_cons (ms_set 3 sc__law_table.nd (me_add rfl (me_int) (me_callG F__law_draw hr (by decide) tk (ma_cons (me_var 0) (ma_cons (me_int) (ma_nil))))))
    (mss_cons (ms_if (mt_cmp (op_eqP hr.units) (dEq_ok rfl) (me_callG F__law_draw hr (by decide) tk (ma_cons (me_var 0) (ma_cons (me_int) (ma_nil)))) (me_int)) (mss_one (ms_set 3 sc__law_table.nd (me_add rfl (me_int) (me_callG F__law_draw hr (by decide) tk (ma_cons (me_var 0) (ma_cons (me_var 1) (ma_nil))))))) (mss_nil))
    (mss_cons (ms_setT (me_callG F__law_rooms hr (by decide) tk (ma_cons (me_var 0) (ma_cons (me_var 2) (ma_cons (me_callB (call_min2 rfl) bMin2_ok z_min (by decide +kernel) (ma_cons (me_var 3) (ma_cons (me_var 1) (ma_nil)))) (ma_nil))))) (mg_tup rfl rfl (.cons (pg_name (i := 4) sc__law_table.nd rfl (by first | exact Or.inl rfl | exact Or.inr rfl)) (.cons (pg_name (i := 5) sc__law_table.nd rfl (by first | exact Or.inl rfl | exact Or.inr rfl)) (.nil) rfl) rfl)))
    (mss_cons (ms_set 6 sc__law_table.nd (me_lst (ma_cons (me_int) (ma_nil))))
    (mss_cons (ms_set 7 sc__law_table.nd (me_int))
    (mss_cons (ms_while hp (mt_cmp op_lt opS_C (me_var 7) (me_callB call_lenA bLen_ok z_len (by decide +kernel) (ma_cons (me_var 6) (ma_nil)))) (mss_cons (ms_for rfl hp (mi_seq rfl (me_ix rfl (me_var 4) (me_ix rfl (me_var 6) (me_var 7)))) (mg_name 8 sc__law_table.nd) (mss_one (ms_if (mt_cmp (op_notInA hr.units) (dIn_ok rfl true) (me_var 8) (me_var 6)) (mss_one (ms_expr (me_meth rfl PySem.F.plainAttrs_list PySem.F.slot_list_append PySem.F.type_list_append mt_append fAppend_ok (me_var 6) (ma_cons (me_var 8) (ma_nil))))) (mss_nil))))
    (mss_one (ms_aug 7 sc__law_table.nd iop_addA iadd_ok (me_int)))))
    (mss_cons (ms_fz 6 (ms_set 6 sc__law_table.nd (me_fz (me_callB cr_sortedI bSorted_ok z_sorted (by decide +kernel) (ma_cons (me_var 6) (ma_nil))))))
    (mss_cons (ms_set 9 sc__law_table.nd (me_callT (call_tupleX rfl) bTupleX_ok z_tuple (by decide +kernel) (ma_cons (me_fz (me_lc (own := [("_law_room", 10)]) rfl sc__law_table.nd (mi_seq rfl (me_var 6)) (blkOk_by (N := ["_law_left", "_law_most", "_law_tongue_here", "_law_many", "_law_goes", "_law_kinds", "_law_met", "_law_at", "_law_to", "_law_rows", "_law_room"]) (sc := defScope (topS 19)) (by decide +kernel)) (fun _ _ _ _ _ => mg_name 10 sc__law_table.nd) (fun _ _ _ _ _ => mts_nil) (fun _ _ _ _ _ => me_callT (call_tupleX rfl) bTupleX_ok z_tuple (by decide +kernel) (ma_cons (me_fz (me_lc (own := [("_law_to", 8)]) rfl sc__law_table.nd (mi_seq rfl (me_ix rfl (me_var 4) (me_var 10))) (by dsimp only [Cx.blk, compEnvC, cxOf]; exact blkOk_in (sc := defScope (topS 19)) rfl (by decide +kernel)) (fun _ _ _ _ _ => mg_name 8 sc__law_table.nd) (fun _ _ _ _ _ => mts_nil) (fun _ _ _ _ _ => me_orE (me_meth rfl PySem.F.plainAttrs_str PySem.F.slot_str_index PySem.F.type_str_index mt_sindex fIndex_ok (me_var 6) (ma_cons (me_var 8) (ma_nil))) (me_orE (me_meth rfl PySem.F.plainAttrs_list PySem.F.slot_list_index PySem.F.type_list_index mt_index fIndexL_ok (me_var 6) (ma_cons (me_var 8) (ma_nil))) (me_meth rfl PySem.F.plainAttrs_list PySem.F.slot_list_index PySem.F.type_list_index (mt_indexD (units65 hr)) fIndexD_ok (me_var 6) (ma_cons (me_var 8) (ma_nil))))))) (ma_nil))))) (ma_nil))))
    (mss_one (ms_ret (me_tup (ma_cons (me_var 2) (ma_cons (me_var 9) (ma_cons (me_callT (call_tupleX rfl) bTupleX_ok z_tuple (by decide +kernel) (ma_cons (me_fz (me_lc (own := [("_law_room", 10)]) rfl sc__law_table.nd (mi_seq rfl (me_var 6)) (blkOk_by (N := ["_law_left", "_law_most", "_law_tongue_here", "_law_many", "_law_goes", "_law_kinds", "_law_met", "_law_at", "_law_to", "_law_rows", "_law_room"]) (sc := defScope (topS 19)) (by decide +kernel)) (fun _ _ _ _ _ => mg_name 10 sc__law_table.nd) (fun _ _ _ _ _ => mts_nil) (fun _ _ _ _ _ => me_ix rfl (me_var 5) (me_var 10)))) (ma_nil))) (ma_nil)))))))))))))))
theorem ok__law_table {P : Program} {w : World} {K : PySem.W.Frag} {mg : Str → Option Value} {base : Heap} {cl : Str → Addr} (d : DefAt K mg "_law_table" (topS 19) ["_law_left", "_law_most"]) (z_min : mg "min" = none) (z_len : mg "len" = none) (z_sorted : mg "sorted" = none) (z_tuple : mg "tuple" = none) (F__law_tongue : FnG P w K mg base ⟨K, cl⟩ "_law_tongue" 2 1 m__law_tongue) (F__law_draw : FnG P w K mg base ⟨K, cl⟩ "_law_draw" 1 2 m__law_draw) (F__law_rooms : FnG P w K mg base ⟨K, cl⟩ "_law_rooms" 2 3 m__law_rooms) : FnG P w K mg base ⟨K, cl⟩ "_law_table" 3 2 m__law_table := d.fn fun f fd F => okf__law_table F z_min z_len z_sorted z_tuple F__law_tongue F__law_draw F__law_rooms
/-! _law_pieces_spoilt -/
noncomputable def m__law_pieces_spoilt : MF := fnM 8 (msCons (msSet 3 (mB bListX (mCons (mVar 1) (mNil))))
    (msCons (msSet 4 (mCall 2 (m__law_draw) (mCons (mVar 0) (mCons (mB bMax2 (mCons (mC (.int 1)) (mCons (mB bLen (mCons (mVar 3) (mNil))) (mNil)))) (mNil)))))
    (msCons (msIf (mOr (mTb (mOp (dEq false) (mVar 2) (mC (.int 12)))) (mTb (mOp (dEq false) (mVar 3) (mFz (mLst (mNil)))))) (msRet (mFz (mOp dAdd (mVar 3) (mFz (mLst (mCons (mTup (mCons (mC (.int 0)) (mCons (mC (.int 0)) (mCons (mC (.int 1)) (mNil))))) (mNil))))))) (msNil))
    (msCons (msIf (mTb (mOp dLt (mVar 2) (mC (.int 7)))) (msSetI (mVar 3) (mVar 4) (mCall 3 (m__law_piece_spoilt) (mCons (mVar 0) (mCons (mOp dIx (mVar 3) (mVar 4)) (mCons (mVar 2) (mNil)))))) (msIf (mTb (mOp (dEq false) (mVar 2) (mC (.int 7)))) (msExpr (mMeth "list" fPopAt (mVar 3) (mCons (mVar 4) (mNil)))) (msIf (mTb (mOp (dEq false) (mVar 2) (mC (.int 8)))) (msExpr (mMeth "list" fInsert (mVar 3) (mCons (mVar 4) (mCons (mOp dIx (mVar 3) (mVar 4)) (mNil))))) (msIf (mTb (mOp (dEq false) (mVar 2) (mC (.int 9)))) (msCons (msSetT (gSets [5, 6, 7]) (mOp dIx (mVar 3) (mVar 4)))
    (msSetSl (mVar 3) (moSome (mVar 4)) (moSome (mOp dAdd (mVar 4) (mC (.int 1)))) (mLst (mCons (mTup (mCons (mVar 5) (mCons (mVar 6) (mCons (mOp dAdd (mVar 6) (mOp dDiv (mOp dSub (mVar 7) (mVar 6)) (mC (.int 2)))) (mNil))))) (mCons (mTup (mCons (mVar 5) (mCons (mOp dAdd (mVar 6) (mOp dDiv (mOp dSub (mVar 7) (mVar 6)) (mC (.int 2)))) (mCons (mVar 7) (mNil))))) (mNil)))))) (msIf (mAnd (mTb (mOp (dEq false) (mVar 2) (mC (.int 10)))) (mTb (mOp dLt (mOp dAdd (mVar 4) (mC (.int 1))) (mB bLen (mCons (mVar 3) (mNil)))))) (msSetSl (mVar 3) (moSome (mVar 4)) (moSome (mOp dAdd (mVar 4) (mC (.int 2)))) (mLst (mCons (mTup (mCons (mOp dIx (mOp dIx (mVar 3) (mVar 4)) (mC (.int 0))) (mCons (mOp dIx (mOp dIx (mVar 3) (mVar 4)) (mC (.int 1))) (mCons (mOp dIx (mOp dIx (mVar 3) (mOp dAdd (mVar 4) (mC (.int 1)))) (mC (.int 2))) (mNil))))) (mNil)))) (msIf (mTb (mOp (dEq false) (mVar 2) (mC (.int 11)))) (msRet (mB bTupleX (mCons (mVar 3) (mNil)))) (msNil)))))))
    (msFz 3 (msRet (mVar 3)))))))
theorem sc__law_pieces_spoilt : FnScope ["_law_left", "_law_pieces", "_law_which", "_law_told", "_law_at", "_law_kind", "_law_start", "_law_end"] ["_law_left", "_law_pieces", "_law_which"] (defScope (topS 25)) := ⟨rfl, rfl, rfl, by decide +kernel, rfl, by decide +kernel, by decide +kernel⟩
theorem okf__law_pieces_spoilt {P : Program} {w : World} {K : PySem.W.Frag} {mg : Str → Option Value} {base : Heap} {cl : Str → Addr} {f : Addr} {fd : FuncData} (F : Fun K "_law_pieces_spoilt" "_law_pieces_spoilt" (topS 25) f fd) (z_list : mg "list" = none) (z_len : mg "len" = none) (z_max : mg "max" = none) (z_tuple : mg "tuple" = none) (F__law_draw : FnG P w K mg base ⟨K, cl⟩ "_law_draw" 1 2 m__law_draw) (F__law_piece_spoilt : FnG P w K mg base ⟨K, cl⟩ "_law_piece_spoilt" 2 3 m__law_piece_spoilt) : FnOk P w K mg base (L2.CX P w) 3 f fd ["_law_left", "_law_pieces", "_law_which"] (FSp ⟨K, cl⟩ 3 m__law_pieces_spoilt) :=
  fnPM F sc__law_pieces_spoilt rfl fun cdv A outer s H E hr tk hp => mss_cons (ms_set 3 sc__law_pieces_spoilt.nd (me_callT (call_listX rfl) bListX_ok z_list (by decide +kernel) (ma_cons (me_var 1) (ma_nil))))
    (mss_cons (ms_set 4 sc__law_pieces_spoilt.nd (me_callG F__law_draw hr (by decide) tk (ma_cons (me_var 0) (ma_cons (me_callB (call_max2 rfl) bMax2_ok z_max (by decide +kernel) (ma_cons (me_int) (ma_cons (me_callB call_lenA bLen_ok z_len (by decide +kernel) (ma_cons (me_var 3) (ma_nil))) (ma_nil)))) (ma_nil)))))
    (mss_cons (ms_if (mt_w (mw_or (mt_cmp (op_eqP hr.units) (dEq_ok rfl) (me_var 2) (me_int)) (mw_or1 (mt_cmp (op_eqP hr.units) (dEq_ok rfl) (me_var 3) (me_fz (me_lst (ma_nil))))))) (mss_one (ms_ret (me_fz (me_add rfl (me_var 3) (me_fz (me_lst (ma_cons (me_tup (ma_cons (me_int) (ma_cons (me_int) (ma_cons (me_int) (ma_nil))))) (ma_nil)))))))) (mss_nil))
    (mss_cons (ms_if (mt_cmp op_lt opS_C (me_var 2) (me_int)) (mss_one (ms_setI (me_callG F__law_piece_spoilt hr (by decide) tk (ma_cons (me_var 0) (ma_cons (me_ix rfl (me_var 3) (me_var 4)) (ma_cons (me_var 2) (ma_nil))))) (me_var 3) (me_var 4))) (mss_one (ms_if (mt_cmp (op_eqP hr.units) (dEq_ok rfl) (me_var 2) (me_int)) (mss_one (ms_expr (me_meth rfl PySem.F.plainAttrs_list PySem.F.slot_list_pop PySem.F.type_list_pop mt_popAt fPopAt_ok (me_var 3) (ma_cons (me_var 4) (ma_nil))))) (mss_one (ms_if (mt_cmp (op_eqP hr.units) (dEq_ok rfl) (me_var 2) (me_int)) (mss_one (ms_expr (me_meth rfl PySem.F.plainAttrs_list PySem.F.slot_list_insert PySem.F.type_list_insert mt_insertA fInsert_ok (me_var 3) (ma_cons (me_var 4) (ma_cons (me_ix rfl (me_var 3) (me_var 4)) (ma_nil)))))) (mss_one (ms_if (mt_cmp (op_eqP hr.units) (dEq_ok rfl) (me_var 2) (me_int)) (mss_cons (ms_setT (me_ix rfl (me_var 3) (me_var 4)) (mg_tup rfl rfl (.cons (pg_name (i := 5) sc__law_pieces_spoilt.nd rfl (by first | exact Or.inl rfl | exact Or.inr rfl)) (.cons (pg_name (i := 6) sc__law_pieces_spoilt.nd rfl (by first | exact Or.inl rfl | exact Or.inr rfl)) (.cons (pg_name (i := 7) sc__law_pieces_spoilt.nd rfl (by first | exact Or.inl rfl | exact Or.inr rfl)) (.nil) rfl) rfl) rfl)))
    (mss_one (ms_setSl (me_lst (ma_cons (me_tup (ma_cons (me_var 5) (ma_cons (me_var 6) (ma_cons (me_add rfl (me_var 6) (me_div (me_sub (me_var 7) (me_var 6)) (me_int))) (ma_nil))))) (ma_cons (me_tup (ma_cons (me_var 5) (ma_cons (me_add rfl (me_var 6) (me_div (me_sub (me_var 7) (me_var 6)) (me_int))) (ma_cons (me_var 7) (ma_nil))))) (ma_nil)))) (me_var 3) (moS (me_var 4)) (moS (me_add rfl (me_var 4) (me_int)))))) (mss_one (ms_if (mt_w (mw_and (mt_cmp (op_eqP hr.units) (dEq_ok rfl) (me_var 2) (me_int)) (mw_and1 (mt_cmp op_lt opS_C (me_add rfl (me_var 4) (me_int)) (me_callB call_lenA bLen_ok z_len (by decide +kernel) (ma_cons (me_var 3) (ma_nil))))))) (mss_one (ms_setSl (me_lst (ma_cons (me_tup (ma_cons (me_ix rfl (me_ix rfl (me_var 3) (me_var 4)) (me_int)) (ma_cons (me_ix rfl (me_ix rfl (me_var 3) (me_var 4)) (me_int)) (ma_cons (me_ix rfl (me_ix rfl (me_var 3) (me_add rfl (me_var 4) (me_int))) (me_int)) (ma_nil))))) (ma_nil))) (me_var 3) (moS (me_var 4)) (moS (me_add rfl (me_var 4) (me_int))))) (mss_one (ms_if (mt_cmp (op_eqP hr.units) (dEq_ok rfl) (me_var 2) (me_int)) (mss_one (ms_ret (me_callT (call_tupleX rfl) bTupleX_ok z_tuple (by decide +kernel) (ma_cons (me_var 3) (ma_nil))))) (mss_nil))))))))))))
    (mss_one (ms_fz 3 (ms_ret (me_var 3)))))))
theorem ok__law_pieces_spoilt {P : Program} {w : World} {K : PySem.W.Frag} {mg : Str → Option Value} {base : Heap} {cl : Str → Addr} (d : DefAt K mg "_law_pieces_spoilt" (topS 25) ["_law_left", "_law_pieces", "_law_which"]) (z_list : mg "list" = none) (z_len : mg "len" = none) (z_max : mg "max" = none) (z_tuple : mg "tuple" = none) (F__law_draw : FnG P w K mg base ⟨K, cl⟩ "_law_draw" 1 2 m__law_draw) (F__law_piece_spoilt : FnG P w K mg base ⟨K, cl⟩ "_law_piece_spoilt" 2 3 m__law_piece_spoilt) : FnG P w K mg base ⟨K, cl⟩ "_law_pieces_spoilt" 3 3 m__law_pieces_spoilt := d.fn fun f fd F => okf__law_pieces_spoilt F z_list z_len z_max z_tuple F__law_draw F__law_piece_spoilt
/-! law -/
noncomputable def m_law : MF := fnM 10 (msCons (msSet 1 (mCall 1 (m__law_source) (mCons (mVar 0) (mNil))))
    (msCons (msSet 2 (mCall 2 (m__law_draw) (mCons (mVar 1) (mCons (mC (.int 20)) (mNil)))))
    (msCons (msSet 3 (mCall 2 (m__law_table) (mCons (mVar 1) (mCons (mC (.int 32)) (mNil)))))
    (msCons (msSet 4 (mCall 2 (m__law_text) (mCons (mVar 1) (mCons (mOp dIx (mVar 3) (mC (.int 0))) (mNil)))))
    (msCons (msSet 5 (mCall 2 (m__law_cut) (mCons (mVar 3) (mCons (mVar 4) (mNil)))))
    (msCons (msIf (mTb (mOp (dIsN true) (mCall 4 (m_cut_holds) (mCons (mVar 3) (mCons (mVar 4) (mCons (mFz (mB bListX (mCons (mOp dIx (mVar 5) (mC (.int 0))) (mNil)))) (mCons (mOp dIx (mVar 5) (mC (.int 1))) (mNil)))))) (mC (.bl true)))) (msRet (mC (.bl false))) (msNil))
    (msCons (msSet 6 (mFz (mB bListX (mCons (mOp dIx (mVar 5) (mC (.int 0))) (mNil)))))
    (msCons (msSet 7 (mOp dIx (mVar 5) (mC (.int 1))))
    (msCons (msIf (mTb (mOp dLt (mVar 2) (mC (.int 13)))) (msSet 6 (mCall 3 (m__law_pieces_spoilt) (mCons (mVar 1) (mCons (mVar 6) (mCons (mVar 2) (mNil)))))) (msIf (mTb (mOp dLt (mVar 2) (mC (.int 18)))) (msSet 7 (mOp dIx (mTup (mCons (mOp dAdd (mVar 7) (mC (.int 1))) (mCons (mOp dSub (mVar 7) (mC (.int 1))) (mCons (mC .non) (mCons (mOp (dEq false) (mVar 7) (mC (.int 1))) (mCons (mC (.str [48])) (mNil))))))) (mOp dSub (mVar 2) (mC (.int 13))))) (msIf (mTb (mOp (dEq false) (mVar 2) (mC (.int 18)))) (msSet 6 (mOp dIx (mTup (mCons (mC .non) (mCons (mFz (mDict [])) (mCons (mC (.str [])) (mNil))))) (mCall 2 (m__law_draw) (mCons (mVar 1) (mCons (mC (.int 3)) (mNil)))))) (msNil))))
    (msCons (msSet 8 (mIf (mTr (mIs "list" (mVar 6))) (mFz (mB bListX (mCons (mVar 6) (mNil)))) (mVar 6)))
    (msCons (msSet 9 (mCall 3 (m__law_holds) (mCons (mVar 6) (mCons (mVar 7) (mCons (mVar 5) (mNil))))))
    (msCons (msIf (mOr (mNot (mTr (mCall 2 (m__law_said) (mCons (mCall 4 (m_cut_holds) (mCons (mVar 3) (mCons (mVar 4) (mCons (mVar 6) (mCons (mVar 7) (mNil)))))) (mCons (mVar 9) (mNil)))))) (mTb (mOp dNeS (mVar 6) (mVar 8)))) (msRet (mC (.bl false))) (msNil))
    (msRet (mOp (dIsN false) (mCall 4 (m_cut_holds) (mCons (mVar 3) (mCons (mVar 4) (mCons (mFz (mB bListX (mCons (mOp dIx (mVar 5) (mC (.int 0))) (mNil)))) (mCons (mOp dIx (mVar 5) (mC (.int 1))) (mNil)))))) (mC (.bl true))))))))))))))))
theorem sc_law : FnScope ["_law_script", "_law_left", "_law_which", "_law_table_here", "_law_text_here", "_law_due", "_law_pieces", "_law_place", "_law_kept", "_law_wanted"] ["_law_script"] (defScope (topS 27)) := ⟨rfl, rfl, rfl, by decide +kernel, rfl, by decide +kernel, by decide +kernel⟩
theorem okf_law {P : Program} {w : World} {K : PySem.W.Frag} {mg : Str → Option Value} {base : Heap} {cl : Str → Addr} {f : Addr} {fd : FuncData} (F : Fun K "law" "law" (topS 27) f fd) (z_list : mg "list" = none) (z_isinstance : mg "isinstance" = none) (F__law_source : FnG P w K mg base ⟨K, cl⟩ "_law_source" 1 1 m__law_source) (F__law_draw : FnG P w K mg base ⟨K, cl⟩ "_law_draw" 1 2 m__law_draw) (F__law_table : FnG P w K mg base ⟨K, cl⟩ "_law_table" 3 2 m__law_table) (F__law_text : FnG P w K mg base ⟨K, cl⟩ "_law_text" 2 2 m__law_text) (F__law_cut : FnG P w K mg base ⟨K, cl⟩ "_law_cut" 2 2 m__law_cut) (F_cut_holds : FnG P w K mg base ⟨K, cl⟩ "cut_holds" 3 4 m_cut_holds) (F__law_pieces_spoilt : FnG P w K mg base ⟨K, cl⟩ "_law_pieces_spoilt" 3 3 m__law_pieces_spoilt) (F__law_holds : FnG P w K mg base ⟨K, cl⟩ "_law_holds" 2 3 m__law_holds) (F__law_said : FnG P w K mg base ⟨K, cl⟩ "_law_said" 1 2 m__law_said) : FnOk P w K mg base (L2.CX P w) 4 f fd ["_law_script"] (FSp ⟨K, cl⟩ 1 m_law) :=
  fnPM F sc_law rfl fun cdv A outer s H E hr tk hp => mss_cons (ms_set 1 sc_law.nd (me_callG F__law_source hr (by decide) tk (ma_cons (me_var 0) (ma_nil))))
    (mss_cons (ms_set 2 sc_law.nd (me_callG F__law_draw hr (by decide) tk (ma_cons (me_var 1) (ma_cons (me_int) (ma_nil)))))
    (mss_cons (ms_set 3 sc_law.nd (me_callG F__law_table hr (by decide) tk (ma_cons (me_var 1) (ma_cons (me_int) (ma_nil)))))
    (mss_cons (ms_set 4 sc_law.nd (me_callG F__law_text hr (by decide) tk (ma_cons (me_var 1) (ma_cons (me_ix rfl (me_var 3) (me_int)) (ma_nil)))))
    (mss_cons (ms_set 5 sc_law.nd (me_callG F__law_cut hr (by decide) tk (ma_cons (me_var 3) (ma_cons (me_var 4) (ma_nil)))))
    (mss_cons (ms_if (mt_cmp op_isnotA dIsnot_ok (me_callG F_cut_holds hr (by decide) tk (ma_cons (me_var 3) (ma_cons (me_var 4) (ma_cons (me_fz (me_callT (call_listX rfl) bListX_ok z_list (by decide +kernel) (ma_cons (me_ix rfl (me_var 5) (me_int)) (ma_nil)))) (ma_cons (me_ix rfl (me_var 5) (me_int)) (ma_nil)))))) (me_bl)) (mss_one (ms_ret (me_bl))) (mss_nil))
    (mss_cons (ms_set 6 sc_law.nd (me_fz (me_callT (call_listX rfl) bListX_ok z_list (by decide +kernel) (ma_cons (me_ix rfl (me_var 5) (me_int)) (ma_nil)))))
    (mss_cons (ms_set 7 sc_law.nd (me_ix rfl (me_var 5) (me_int)))
    (mss_cons (ms_if (mt_cmp op_lt opS_C (me_var 2) (me_int)) (mss_one (ms_set 6 sc_law.nd (me_callG F__law_pieces_spoilt hr (by decide) tk (ma_cons (me_var 1) (ma_cons (me_var 6) (ma_cons (me_var 2) (ma_nil))))))) (mss_one (ms_if (mt_cmp op_lt opS_C (me_var 2) (me_int)) (mss_one (ms_set 7 sc_law.nd (me_ix rfl (me_tup (ma_cons (me_add rfl (me_var 7) (me_int)) (ma_cons (me_sub (me_var 7) (me_int)) (ma_cons (me_non) (ma_cons (me_cmp (op_eqP hr.units) (dEq_ok rfl) (me_var 7) (me_int)) (ma_cons (me_str [48]) (ma_nil))))))) (me_sub (me_var 2) (me_int))))) (mss_one (ms_if (mt_cmp (op_eqP hr.units) (dEq_ok rfl) (me_var 2) (me_int)) (mss_one (ms_set 6 sc_law.nd (me_ix rfl (me_tup (ma_cons (me_non) (ma_cons (me_fz (me_dict0)) (ma_cons (me_str []) (ma_nil))))) (me_callG F__law_draw hr (by decide) tk (ma_cons (me_var 1) (ma_cons (me_int) (ma_nil))))))) (mss_nil))))))
    (mss_cons (ms_set 8 sc_law.nd (me_ifExp (mt_val rfl (me_is rfl (me_var 6) z_isinstance z_list)) (me_fz (me_callT (call_listX rfl) bListX_ok z_list (by decide +kernel) (ma_cons (me_var 6) (ma_nil)))) (me_var 6)))
    (mss_cons (ms_set 9 sc_law.nd (me_callG F__law_holds hr (by decide) tk (ma_cons (me_var 6) (ma_cons (me_var 7) (ma_cons (me_var 5) (ma_nil))))))
    (mss_cons (ms_if (mt_w (mw_or (mt_not (mt_val rfl (me_callG F__law_said hr (by decide) tk (ma_cons (me_callG F_cut_holds hr (by decide) tk (ma_cons (me_var 3) (ma_cons (me_var 4) (ma_cons (me_var 6) (ma_cons (me_var 7) (ma_nil)))))) (ma_cons (me_var 9) (ma_nil)))))) (mw_or1 (mt_cmp (op_neS hr.units) (dNeS_ok rfl) (me_var 6) (me_var 8))))) (mss_one (ms_ret (me_bl))) (mss_nil))
    (mss_one (ms_ret (me_cmp op_isA dIs_ok (me_callG F_cut_holds hr (by decide) tk (ma_cons (me_var 3) (ma_cons (me_var 4) (ma_cons (me_fz (me_callT (call_listX rfl) bListX_ok z_list (by decide +kernel) (ma_cons (me_ix rfl (me_var 5) (me_int)) (ma_nil)))) (ma_cons (me_ix rfl (me_var 5) (me_int)) (ma_nil)))))) (me_bl)))))))))))))))
/-! the end -/
theorem all_ok {P : Program} {w : World} {K : PySem.W.Frag} {mg : Str → Option Value} {base : Heap} (cl : Str → Addr) (z_abs : mg "abs" = none) (z_all : mg "all" = none) (z_bool : mg "bool" = none) (z_int : mg "int" = none) (z_isinstance : mg "isinstance" = none) (z_len : mg "len" = none) (z_list : mg "list" = none) (z_max : mg "max" = none) (z_min : mg "min" = none) (z_range : mg "range" = none) (z_sorted : mg "sorted" = none) (z_str : mg "str" = none) (z_sum : mg "sum" = none) (z_tuple : mg "tuple" = none) (x_NoText : ExC1 K mg "NoText" (cl "NoText")) (d_is_number : DefAt K mg "is_number" (topS 4) ["thing"]) (d_is_text : DefAt K mg "is_text" (topS 7) ["tongue", "thing"]) (d_longest : DefAt K mg "longest" (topS 9) ["table", "text", "at"]) (d__law_said : DefAt K mg "_law_said" (topS 13) ["_law_found", "_law_wanted"]) (d__law_source : DefAt K mg "_law_source" (topS 14) ["_law_script"]) (d__law_draw : DefAt K mg "_law_draw" (topS 15) ["_law_left", "_law_many"]) (d__law_signs : DefAt K mg "_law_signs" (topS 16) []) (d__law_first : DefAt K mg "_law_first" (topS 21) ["_law_table_here", "_law_text_here", "_law_at"]) (d__law_numbers : DefAt K mg "_law_numbers" (topS 23) ["_law_found", "_law_many"]) (d_is_numbers : DefAt K mg "is_numbers" (topS 5) ["thing"]) (d_cut : DefAt K mg "cut" (topS 10) ["table", "text"]) (d__law_tongue : DefAt K mg "_law_tongue" (topS 17) ["_law_left"]) (d__law_rooms : DefAt K mg "_law_rooms" (topS 18) ["_law_left", "_law_tongue_here", "_law_many"]) (d__law_text : DefAt K mg "_law_text" (topS 20) ["_law_left", "_law_tongue_here"]) (d__law_cut : DefAt K mg "_law_cut" (topS 22) ["_law_table_here", "_law_text_here"]) (d__law_piece_spoilt : DefAt K mg "_law_piece_spoilt" (topS 24) ["_law_left", "_law_piece", "_law_which"]) (d__law_holds : DefAt K mg "_law_holds" (topS 26) ["_law_pieces", "_law_place", "_law_due"]) (d_cut_holds : DefAt K mg "cut_holds" (topS 11) ["table", "text", "pieces", "place"]) (d__law_table : DefAt K mg "_law_table" (topS 19) ["_law_left", "_law_most"]) (d__law_pieces_spoilt : DefAt K mg "_law_pieces_spoilt" (topS 25) ["_law_left", "_law_pieces", "_law_which"]) {f : Addr} {fd : FuncData} (F : Fun K "law" "law" (topS 27) f fd) : FnOk P w K mg base (L2.CX P w) 4 f fd ["_law_script"] (FSp ⟨K, cl⟩ 1 m_law) := by
  have F_is_number : FnG P w K mg base ⟨K, cl⟩ "is_number" 1 1 m_is_number := ok_is_number d_is_number z_isinstance z_int z_bool
  have F_is_text : FnG P w K mg base ⟨K, cl⟩ "is_text" 1 2 m_is_text := ok_is_text d_is_text z_isinstance z_str z_all
  have F_longest : FnG P w K mg base ⟨K, cl⟩ "longest" 1 3 m_longest := ok_longest d_longest z_len z_range
  have F__law_said : FnG P w K mg base ⟨K, cl⟩ "_law_said" 1 2 m__law_said := ok__law_said d__law_said
  have F__law_source : FnG P w K mg base ⟨K, cl⟩ "_law_source" 1 1 m__law_source := ok__law_source d__law_source z_abs z_int z_sum
  have F__law_draw : FnG P w K mg base ⟨K, cl⟩ "_law_draw" 1 2 m__law_draw := ok__law_draw d__law_draw z_len
  have F__law_signs : FnG P w K mg base ⟨K, cl⟩ "_law_signs" 1 0 m__law_signs := ok__law_signs d__law_signs
  have F__law_first : FnG P w K mg base ⟨K, cl⟩ "_law_first" 1 3 m__law_first := ok__law_first d__law_first z_len z_range
  have F__law_numbers : FnG P w K mg base ⟨K, cl⟩ "_law_numbers" 1 2 m__law_numbers := ok__law_numbers d__law_numbers z_isinstance z_tuple z_len z_int z_bool
  have F_is_numbers : FnG P w K mg base ⟨K, cl⟩ "is_numbers" 2 1 m_is_numbers := ok_is_numbers d_is_numbers z_isinstance z_tuple F_is_number
  have F_cut : FnG P w K mg base ⟨K, cl⟩ "cut" 2 2 m_cut := ok_cut d_cut z_len x_NoText F_is_text F_longest
  have F__law_tongue : FnG P w K mg base ⟨K, cl⟩ "_law_tongue" 2 1 m__law_tongue := ok__law_tongue d__law_tongue z_range z_len F__law_signs F__law_draw
  have F__law_rooms : FnG P w K mg base ⟨K, cl⟩ "_law_rooms" 2 3 m__law_rooms := ok__law_rooms d__law_rooms z_range F__law_draw
  have F__law_text : FnG P w K mg base ⟨K, cl⟩ "_law_text" 2 2 m__law_text := ok__law_text d__law_text z_range z_len F__law_draw
  have F__law_cut : FnG P w K mg base ⟨K, cl⟩ "_law_cut" 2 2 m__law_cut := ok__law_cut d__law_cut F__law_first
  have F__law_piece_spoilt : FnG P w K mg base ⟨K, cl⟩ "_law_piece_spoilt" 2 3 m__law_piece_spoilt := ok__law_piece_spoilt d__law_piece_spoilt F__law_draw
  have F__law_holds : FnG P w K mg base ⟨K, cl⟩ "_law_holds" 2 3 m__law_holds := ok__law_holds d__law_holds z_isinstance z_list z_len z_range F__law_numbers
  have F_cut_holds : FnG P w K mg base ⟨K, cl⟩ "cut_holds" 3 4 m_cut_holds := ok_cut_holds d_cut_holds z_isinstance z_list z_len z_range F_cut F_is_number F_is_numbers
  have F__law_table : FnG P w K mg base ⟨K, cl⟩ "_law_table" 3 2 m__law_table := ok__law_table d__law_table z_min z_len z_sorted z_tuple F__law_tongue F__law_draw F__law_rooms
  have F__law_pieces_spoilt : FnG P w K mg base ⟨K, cl⟩ "_law_pieces_spoilt" 3 3 m__law_pieces_spoilt := ok__law_pieces_spoilt d__law_pieces_spoilt z_list z_len z_max z_tuple F__law_draw F__law_piece_spoilt
  exact okf_law F z_list z_isinstance F__law_source F__law_draw F__law_table F__law_text F__law_cut F_cut_holds F__law_pieces_spoilt F__law_holds F__law_said
end NR

set_option Elab.async false
set_option linter.all false
set_option maxRecDepth 100000
set_option maxHeartbeats 1000000
/-! What the functions come to: equations for simp. -/
namespace NR
open PySem PySem.Spec PyProof.Rows L2
@[simp] theorem get_zero {A : Type} {a : A} {l : List A} : (a :: l)[0]? = some a := (rfl)
section
variable {A B : Type} {env : EV} {h h' : IH} {i j : Nat} {d x y : D} {a b c m mo mi me : ME} {t u : MT} {ta : MA} {s s1 s2 : MS} {f g : D → D → IH → R D}
@[simp] theorem bind_ok {a : A} {k : A → IH → R B} : (R.ok a h).bind k = k a h := (rfl)
@[simp] theorem bind_ex {c : Str} {d : XF} {k : A → IH → R B} : (R.ex c d h : R A).bind k = .ex c d h := (rfl)
@[simp] theorem bind_no {k : A → IH → R B} : (R.no : R A).bind k = .no := (rfl)
@[simp] theorem bindS_ok {a : A} {k : A → IH → RS} : (R.ok a h).bindS env k = k a h := (rfl)
@[simp] theorem bindS_ex {c : Str} {d : XF} {k : A → IH → RS} : (R.ex c d h : R A).bindS env k = .ex c d env h := (rfl)
@[simp] theorem bindS_no {k : A → IH → RS} : (R.no : R A).bindS env k = .no := (rfl)
@[simp] theorem then_nx {k : EV → IH → RS} : (RS.nx env h).then k = k env h := (rfl)
@[simp] theorem then_rt {k : EV → IH → RS} : (RS.rt d h).then k = .rt d h := (rfl)
@[simp] theorem then_bk {k : EV → IH → RS} : (RS.bk env h).then k = .bk env h := (rfl)
@[simp] theorem then_ct {k : EV → IH → RS} : (RS.ct env h).then k = .ct env h := (rfl)
@[simp] theorem then_ex {c : Str} {d : XF} {k : EV → IH → RS} : (RS.ex c d env h).then k = .ex c d env h := (rfl)
@[simp] theorem then_no {k : EV → IH → RS} : RS.no.then k = .no := (rfl)
@[simp] theorem fin_nx : (RS.nx env h).fin = .ok .non h := (rfl)
@[simp] theorem fin_rt : (RS.rt d h).fin = .ok d h := (rfl)
@[simp] theorem fin_ex {c : Str} {d : XF} : (RS.ex c d env h).fin = .ex c d h := (rfl)
@[simp] theorem ofO_some {a : A} : R.ofO (some a) h = .ok a h := (rfl)
/-- a new list -/
def newL (h : IH) (xs : List D) : R D := .ok (.ref h.length) (h ++ [.lst xs])
theorem newL_bind {xs : List D} {k : D → IH → R B} : (newL h xs).bind k = k (.ref h.length) (h ++ [.lst xs]) := rfl
theorem newL_bindS {xs : List D} {k : D → IH → RS} : (newL h xs).bindS env k = k (.ref h.length) (h ++ [.lst xs]) := rfl
@[simp] theorem ap_mVar : mVar i env h = match env[i]? with | some (some d) => .ok d h | _ => .no := rfl
@[simp] theorem ap_mC : mC d env h = .ok d h := rfl
@[simp] theorem ap_mOp : mOp f a b env h = (a env h).bind fun x h1 => (b env h1).bind fun y h2 => f x y h2 := rfl
@[simp] theorem ap_mTr : mTr m env h = (m env h).bind fun d h1 => R.ofO (truD h1 d) h1 := rfl
@[simp] theorem ap_mTb : mTb m env h = (m env h).bind fun d h1 => R.ofO d.bl? h1 := rfl
@[simp] theorem ap_mAnd : mAnd t u env h = (t env h).bind fun c h1 => if c = true then u env h1 else .ok false h1 := rfl
@[simp] theorem ap_mOr : mOr t u env h = (t env h).bind fun c h1 => if c = true then .ok true h1 else u env h1 := rfl
@[simp] theorem ap_mNot : mNot t env h = (t env h).bind fun c h1 => .ok (!c) h1 := rfl
@[simp] theorem ap_mIf : mIf t a b env h = (t env h).bind fun c h1 => if c = true then a env h1 else b env h1 := rfl
@[simp] theorem ap_mNil : mNil env h = .ok [] h := rfl
@[simp] theorem ap_mCons : mCons a ta env h = (a env h).bind fun x h1 => (ta env h1).bind fun xs h2 => .ok (x :: xs) h2 := rfl
@[simp] theorem ap_mTup : mTup ta env h = (ta env h).bind fun xs h1 => if xs.length ≤ 10000000 then .ok (.tup xs) h1 else .no := rfl
@[simp] theorem ap_mLst : mLst ta env h = (ta env h).bind fun xs h1 => if xs.length ≤ 10000000 then newL h1 xs else .no := rfl
@[simp] theorem ap_mCall {n : Nat} {fm : MF} : mCall n fm ta env h = (ta env h).bind fun ds h1 => callC n fm ds h1 := rfl
@[simp] theorem ap_mB {fb : List D → IH → R D} : mB fb ta env h = (ta env h).bind fun xs h1 => fb xs h1 := rfl
@[simp] theorem ap_mMeth {T : String} {fb : D → List D → IH → R D} : mMeth T fb mo ta env h = (mo env h).bind fun x h1 => if tyD T h1 x = true then (ta env h1).bind fun xs h2 => fb x xs h2 else .no := rfl
@[simp] theorem ap_mNeg : mNeg a env h = (a env h).bind fun x h1 => match x with | .int i => .ok (.int (-i)) h1 | _ => .no := rfl
@[simp] theorem ap_mAndV : mAndV a b env h = (a env h).bind fun x h1 => match x with | .bl true => b env h1 | .bl false => .ok (.bl false) h1 | _ => .no := rfl
@[simp] theorem ap_mOrV : mOrV a b env h = (a env h).bind fun x h1 => match x with | .bl true => .ok (.bl true) h1 | .bl false => b env h1 | _ => .no := rfl
@[simp] theorem ap_mNotV : mNotV a env h = (a env h).bind fun x h1 => match x with | .bl b => .ok (.bl (!b)) h1 | _ => .no := rfl
@[simp] theorem ap_mChain : mChain f g a b c env h = (a env h).bind fun x h1 => (b env h1).bind fun y h2 => (f x y h2).bind fun z h3 => match z with
  | .bl true => (c env h3).bind fun w h4 => g y w h4
  | .bl false => .ok (.bl false) h3
  | _ => .no := rfl
@[simp] theorem ap_mSlice {l u : MO} : mSlice m l u env h = (m env h).bind fun x h1 => (l env h1).bind fun l h2 => (u env h2).bind fun u h3 => sliceD x l u h3 := rfl
@[simp] theorem ap_moNone : moNone env h = .ok none h := rfl
@[simp] theorem ap_moSome : moSome m env h = (m env h).bind fun d h1 => match d with | .int i => .ok (some i) h1 | _ => .no := rfl
@[simp] theorem ap_mIs {T : String} : mIs T m env h = (m env h).bind fun x h1 => match isT T h1 x with | some b => .ok (.bl b) h1 | none => .no := rfl
@[simp] theorem ap_msNil : msNil env h = .nx env h := rfl
@[simp] theorem ap_msCons : msCons s1 s2 env h = (s1 env h).then s2 := rfl
@[simp] theorem ap_msRet : msRet m env h = (m env h).bindS env fun d h1 => .rt d h1 := rfl
@[simp] theorem ap_msIf : msIf t s1 s2 env h = (t env h).bindS env fun c h1 => if c = true then s1 env h1 else s2 env h1 := rfl
@[simp] theorem ap_msSet : msSet i m env h = (m env h).bindS env fun d h1 => .nx (env.set i (some d)) h1 := rfl
@[simp] theorem ap_msSetT {gg : MG} : msSetT gg m env h = (m env h).bindS env fun d h1 => match gg d env with | some e => .nx e h1 | none => .no := rfl
@[simp] theorem ap_msExpr : msExpr m env h = (m env h).bindS env fun _ h1 => .nx env h1 := rfl
@[simp] theorem ap_msAug : msAug i f m env h = match env[i]? with
  | some (some x) => (m env h).bindS env fun y h1 => (f x y h1).bindS env fun z h2 => .nx (env.set i (some z)) h2
  | _ => .no := rfl
@[simp] theorem ap_msSetI : msSetI mo mi me env h = (me env h).bindS env fun v h1 => (mo env h1).bindS env fun o h2 => (mi env h2).bindS env fun i h3 => match putD o i v h3 with
  | some h4 => .nx env h4
  | none => .no := rfl
@[simp] theorem ap_msAugI : msAugI f mo mi me env h = (mo env h).bindS env fun o h1 => (mi env h1).bindS env fun i h2 => match getL o i h2 with
  | none => .no
  | some x => (me env h2).bindS env fun y h3 => (f x y h3).bindS env fun z h4 => match putD o i z h4 with
    | some h5 => .nx env h5
    | none => .no := rfl
@[simp] theorem ap_msFor {it : MI} {gg : MG} : msFor it gg s env h = (it env h).bindS env fun src h1 => forM src gg s (src.many h1 + 1) 0 env h1 := rfl
@[simp] theorem ap_mLc {it : MI} {gg : MG} {ws : List Nat} : mLc it gg t m ws env h = (it env h).bind fun src h1 => lcM src gg t m h1.length (src.many h1 + 1) 0 (wipeE env ws) (h1 ++ [.lst []]) := rfl
@[simp] theorem ap_iSeq : iSeq m env h = (m env h).bind fun x h1 => match x with
  | .ref n => if (lstOf h1 (.ref n)).isSome then .ok (.ls n) h1 else .no
  | .tup l => .ok (.st l) h1
  | .fl l => .ok (.st l) h1
  | .str s => if s.length ≤ 10000000 then .ok (.st (s.map fun c => .str [c])) h1 else .no
  | _ => .no := rfl
@[simp] theorem ap_iRange1 : iRange1 ta env h = (ta env h).bind fun xs h1 => match xs with
  | [.int j] => if -10000000 ≤ j ∧ j ≤ 10000000 then .ok (.st (intsFrom 0 j.toNat)) h1 else .no
  | _ => .no := rfl
@[simp] theorem ap_iRange2 : iRange2 ta env h = (ta env h).bind fun xs h1 => match xs with
  | [.int i, .int j] => if -10000000 ≤ i ∧ i ≤ 10000000 ∧ -10000000 ≤ j ∧ j ≤ 10000000 then .ok (.st (intsFrom i (j - i).toNat)) h1 else .no
  | _ => .no := rfl
@[simp] theorem ap_fnM {n : Nat} {ds : List D} : fnM n s ds h = (s (ds.map some ++ List.replicate (n - ds.length) none) h).fin := rfl
theorem strV_eq (a b : List Nat) : (strV a == strV b) = decide (a = b) := by
  by_cases e : a = b
  · subst e; simp
  · rw [decide_eq_false e]
    exact beq_eq_false_iff_ne.mpr fun z => e (strV_inj z)
@[simp] theorem dEq_str {neg : Bool} {a b : List Nat} : dEq neg (.str a) (.str b) h = .ok (.bl (if neg then !decide (a = b) else decide (a = b))) h := by
  show R.ok (D.bl (if neg then !PyData.eqv (.str (strV a)) (.str (strV b)) else PyData.eqv (.str (strV a)) (.str (strV b)))) h = _
  rw [show PyData.eqv (.str (strV a)) (.str (strV b)) = (strV a == strV b) by simp [PyData.eqv], strV_eq]
@[simp] theorem dEq_int {neg : Bool} {a b : Int} : dEq neg (.int a) (.int b) h = .ok (.bl (if neg then !decide (a = b) else decide (a = b))) h := by
  show R.ok (D.bl (if neg then !PyData.eqv (.int a) (.int b) else PyData.eqv (.int a) (.int b))) h = _
  rw [show PyData.eqv (.int a) (.int b) = (a == b) by simp [PyData.eqv], Bool.beq_eq_decide_eq]
@[simp] theorem dIn_sign {neg : Bool} {c : Nat} {z : List Nat} : dIn neg (.str [c]) (.str z) h = .ok (.bl (if neg then !decide (c ∈ z) else decide (c ∈ z))) h := rfl
theorem allM_pyStrs {k : Nat} (zs : List (List Nat)) : allM (D.py h (k + 1)) (zs.map D.str) = some (zs.map fun z => PyData.str (strV z)) := by
  induction zs with
  | nil => rfl
  | cons z zs ih =>
    rw [List.map_cons, List.map_cons]
    unfold allM
    rw [ih]
    rfl
theorem dIn_strs {neg : Bool} {a : List Nat} {zs : List (List Nat)} : dIn neg (.str a) (.tup (zs.map D.str)) h = .ok (.bl (if neg then !decide (a ∈ zs) else decide (a ∈ zs))) h := by
  have e : (zs.map fun z => PyData.str (strV z)).any (fun z => PyData.eqv z (.str (strV a))) = decide (a ∈ zs) := by
    induction zs with
    | nil => rfl
    | cons z zs ih =>
      simp only [List.map_cons, List.any_cons, ih, PyData.eqv, strV_eq, List.mem_cons, Bool.decide_or]
      rw [show decide (z = a) = decide (a = z) from decide_eq_decide.mpr eq_comm]
  unfold dIn
  split
  · rename_i h1 h2; cases h2
  · rw [show D.py h 50 (.str a) = some (.str (strV a)) from rfl, show (seqOf h (.tup (zs.map D.str))).bind (allM (D.py h 49)) = allM (D.py h (48 + 1)) (zs.map D.str) from rfl, allM_pyStrs]
    dsimp only
    rw [e]
@[simp] theorem dAdd_int {i j : Int} : dAdd (.int i) (.int j) h = .ok (.int (i + j)) h := rfl
@[simp] theorem dSub_int {i j : Int} : dSub (.int i) (.int j) h = .ok (.int (i - j)) h := rfl
theorem dAdd_str_if {a b : List Nat} : dAdd (.str a) (.str b) h = if a.length + b.length ≤ 10000000 then .ok (.str (a ++ b)) h else .no := rfl
@[simp] theorem dMul_int {i j : Int} : dMul (.int i) (.int j) h = if cMul i j then .ok (.int (i * j)) h else .no := rfl
@[simp] theorem dI_int {C : Int → Int → Bool} {k : Int → Int → Int} {i j : Int} : dI C k (.int i) (.int j) h = if C i j then .ok (.int (k i j)) h else .no := rfl
@[simp] theorem dC_int {k : Int → Int → Bool} {i j : Int} : dC k (.int i) (.int j) h = .ok (.bl (k i j)) h := rfl
@[simp] theorem bl?_bl {b : Bool} : (D.bl b).bl? = some b := rfl
@[simp] theorem truD_bl {b : Bool} : truD h (.bl b) = some b := rfl
theorem okB_self {k : Nat} : ∀ {h g : IH}, okB k h (h ++ g)
  | [], _ => True.intro
  | _ :: h, g => ⟨.inl rfl, okB_self (h := h)⟩
@[simp] theorem okB_app {k : Nat} {h g : IH} : okB k h (h ++ g) ↔ True := iff_true_intro okB_self
@[simp] theorem okB_refl {k : Nat} {h : IH} : okB k h h ↔ True := iff_true_intro (by simpa using okB_self (k := k) (h := h) (g := []))
@[simp] theorem okB_nil {k : Nat} {h : IH} : okB k [] h ↔ True := Iff.rfl
@[simp] theorem okB_cons {k : Nat} {c c' : Cell} {cs cs' : IH} : okB k (c :: cs) (c' :: cs') ↔ (c' = c ∨ Cell.lo k c' = true) ∧ okB k cs cs' := Iff.rfl
/-- a call of a def that changes nothing and tells a value without cells of its own -/
theorem callC_pure {n : Nat} {fm : MF} {ds : List D} {d : D} {g : IH} (hn : ds.length = n) (e : fm ds h = .ok d (h ++ g)) (hd : d.lo h.length = true) : callC n fm ds h = .ok d h := by
  unfold callC
  rw [if_pos hn, e]
  unfold clean
  simp [hd]
theorem callC_same {n : Nat} {fm : MF} {ds : List D} {d : D} (hn : ds.length = n) (e : fm ds h = .ok d h) : callC n fm ds h = .ok d h := by
  unfold callC
  rw [if_pos hn, e]
  unfold clean
  simp
theorem callC_ex {n : Nat} {fm : MF} {ds : List D} {c : Str} {g : IH} (hn : ds.length = n) (e : fm ds h = .ex c none (h ++ g)) : callC n fm ds h = .ex c none h := by
  unfold callC
  rw [if_pos hn, e]
  unfold clean
  simp [xfLo]
theorem callC_len {n : Nat} {fm : MF} {ds : List D} {d : D} (hn : ds.length = n) (e : fm ds h = .ok d h') (hl : h'.length = h.length) : callC n fm ds h = .ok d h' := by
  unfold callC
  rw [if_pos hn, e]
  unfold clean
  dsimp only
  rw [← hl, List.take_length]
  split <;> rfl
/-- a call that leaves h' of the old cells, and more behind them -/
theorem callC_cut {n : Nat} {fm : MF} {ds : List D} {d : D} {g : IH} (hn : ds.length = n) (e : fm ds h = .ok d (h' ++ g)) (hl : h'.length = h.length) (hd : d.lo h.length = true) (hw : okB h.length h (h' ++ g)) : callC n fm ds h = .ok d h' := by
  unfold callC
  rw [if_pos hn, e]
  unfold clean
  dsimp only
  rw [if_pos ⟨hd, hw⟩, ← hl, List.take_left]
/-- a call that draws: the pen's cell stands at 1 -/
theorem callC_pen {n : Nat} {fm : MF} {ds : List D} {d : D} {z c c' : Cell} {g g' : IH} (hn : ds.length = n) (e : fm ds (z :: c :: g) = .ok d (z :: c' :: (g ++ g'))) (hd : ∀ k, 2 ≤ k → d.lo k = true) (hc : ∀ k, 2 ≤ k → Cell.lo k c' = true) : callC n fm ds (z :: c :: g) = .ok d (z :: c' :: g) :=
  callC_cut (h := z :: c :: g) (h' := z :: c' :: g) (g := g') hn (by simpa using e) rfl (hd _ (by simp)) (by simp [hc])
theorem callC_pen0 {n : Nat} {fm : MF} {ds : List D} {d : D} {z c c' : Cell} {g : IH} (hn : ds.length = n) (e : fm ds (z :: c :: g) = .ok d (z :: c' :: g)) : callC n fm ds (z :: c :: g) = .ok d (z :: c' :: g) := callC_len hn e rfl
/-- a call whose value is a cell of its own -/
theorem callC_new {n : Nat} {fm : MF} {ds : List D} {k : Nat} (hn : ds.length = n) (e : fm ds h = .ok (.ref k) h') (hk : h.length ≤ k) : callC n fm ds h = .ok (.ref k) h' := by
  unfold callC
  rw [if_pos hn, e]
  unfold clean
  dsimp only
  rw [if_neg]
  rintro ⟨h2, _⟩
  simp [D.lo] at h2
  omega
/-- a call whose value tells of cells of its own -/
theorem callC_tup {n : Nat} {fm : MF} {ds : List D} {d : D} (hn : ds.length = n) (e : fm ds h = .ok d h') (hd : d.lo h.length = false) : callC n fm ds h = .ok d h' := by
  unfold callC
  rw [if_pos hn, e]
  unfold clean
  dsimp only
  rw [if_neg]
  rintro ⟨h2, _⟩
  rw [hd] at h2
  cases h2
/-- a for over what stands still -/
theorem forM_inv {ds : List D} {gg : MG} (P : Nat → EV → IH → Prop) (Rs : RS → Prop)
    (step : ∀ i d env h, ds[i]? = some d → P i env h → ∃ e1, gg d env = some e1 ∧ (match s e1 h with
      | .nx e2 h2 => P (i + 1) e2 h2
      | .ct e2 h2 => P (i + 1) e2 h2
      | .bk e2 h2 => Rs (.nx e2 h2)
      | r => Rs r)) (fin : ∀ env h, P ds.length env h → Rs (.nx env h)) (h0 : P 0 env h) : Rs (forM (.st ds) gg s ((Src.st ds).many h + 1) 0 env h) := by
  have go : ∀ m i env h, i + m = ds.length + 1 → i ≤ ds.length → P i env h → Rs (forM (.st ds) gg s m i env h) := by
    intro m
    induction m with
    | zero => intro i env h e l; omega
    | succ m ih =>
      intro i env h e l p
      unfold forM
      rw [if_pos (show (Src.st ds).ok h = true from rfl)]
      show Rs (match ds[i]? with
        | none => _
        | some d => _)
      cases hd : ds[i]? with
      | none =>
        have : i = ds.length := by
          have := List.getElem?_eq_none_iff.mp hd
          omega
        subst this
        exact fin env h p
      | some d =>
        have hi := (List.getElem?_eq_some_iff.mp hd).1
        obtain ⟨e1, g1, st⟩ := step i d env h hd p
        dsimp only
        rw [g1]
        dsimp only
        revert st
        cases s e1 h with
        | nx e2 h2 => exact fun st => ih (i + 1) e2 h2 (by omega) (by omega) st
        | ct e2 h2 => exact fun st => ih (i + 1) e2 h2 (by omega) (by omega) st
        | bk e2 h2 => exact fun st => st
        | rt d2 h2 => exact fun st => st
        | ex c d2 e2 h2 => exact fun st => st
        | no => exact fun st => st
  exact go _ 0 env h (by show 0 + (ds.length + 1) = _; omega) (Nat.zero_le _) h0
theorem msWhile_inv {c : MT} (P : Nat → EV → IH → Prop) (Rs : RS → Prop)
    (step : ∀ m env h, P m env h → match c env h with
      | .ok true h1 => (match s env h1 with
        | .nx e2 h2 => ∃ m', m' < m ∧ P m' e2 h2
        | .ct e2 h2 => ∃ m', m' < m ∧ P m' e2 h2
        | .bk e2 h2 => Rs (.nx e2 h2)
        | r => Rs r)
      | .ok false h1 => Rs (.nx env h1)
      | .ex cl d h1 => Rs (.ex cl d env h1)
      | .no => Rs .no) : ∀ (m : Nat) (env : EV) (h : IH), P m env h → Rs (msWhile c s env h) := by
  intro m
  induction m using Nat.strongRecOn with
  | _ m ih =>
    intro env h p
    have st := step m env h p
    rw [msWhile_eq]
    revert st
    cases c env h with
    | no => exact fun st => st
    | ex cl d h1 => exact fun st => st
    | ok b h1 =>
      cases b with
      | false => exact fun st => st
      | true =>
        dsimp only
        cases s env h1 with
        | nx e2 h2 => exact fun ⟨m', l, p'⟩ => ih m' l e2 h2 p'
        | ct e2 h2 => exact fun ⟨m', l, p'⟩ => ih m' l e2 h2 p'
        | bk e2 h2 => exact fun st => st
        | rt d2 h2 => exact fun st => st
        | ex c d2 e2 h2 => exact fun st => st
        | no => exact fun st => st
/-- a comprehension over what stands still -/
theorem lcM_inv {ds : List D} {gg : MG} {n : Nat} (P : Nat → IH → Prop) (Rs : R D → Prop)
    (step : ∀ i d h, ds[i]? = some d → P i h → ∃ e1, gg d env = some e1 ∧ (match t e1 h with
      | .ok true h2 => ∃ y h3 acc, m e1 h2 = .ok y h3 ∧ h3[n]? = some (.lst acc) ∧ acc.length < 10000000 ∧ P (i + 1) (h3.set n (.lst (acc ++ [y])))
      | .ok false h2 => P (i + 1) h2
      | _ => False)) (fin : ∀ h, P ds.length h → Rs (.ok (.ref n) h)) (h0 : P 0 h) : Rs (lcM (.st ds) gg t m n ((Src.st ds).many h' + 1) 0 env h) := by
  have go : ∀ k i h, i + k = ds.length + 1 → i ≤ ds.length → P i h → Rs (lcM (.st ds) gg t m n k i env h) := by
    intro k
    induction k with
    | zero => intro i h e l; omega
    | succ k ih =>
      intro i h e l p
      unfold lcM
      rw [if_pos (show (Src.st ds).ok h = true from rfl)]
      show Rs (match ds[i]? with
        | none => _
        | some d => _)
      cases hd : ds[i]? with
      | none =>
        have : i = ds.length := by
          have := List.getElem?_eq_none_iff.mp hd
          omega
        subst this
        exact fin h p
      | some d =>
        have hi := (List.getElem?_eq_some_iff.mp hd).1
        obtain ⟨e1, g1, st⟩ := step i d h hd p
        dsimp only
        rw [g1]
        dsimp only
        revert st
        cases t e1 h with
        | no => exact fun st => st.elim
        | ex _ _ _ => exact fun st => st.elim
        | ok b h2 =>
          cases b with
          | false => exact fun st => ih (i + 1) h2 (by omega) (by omega) st
          | true =>
            rintro ⟨y, h3, acc, e3, e4, l4, p4⟩
            dsimp only
            rw [e3]
            dsimp only
            rw [e4]
            dsimp only
            rw [if_pos l4]
            exact ih (i + 1) _ (by omega) (by omega) p4
  exact go _ 0 h (by show 0 + (ds.length + 1) = _; omega) (Nat.zero_le _) h0
theorem get_last {h : IH} {c : Cell} : (h ++ [c])[h.length]? = some c := by simp
theorem set_last {h : IH} {c c' : Cell} : (h ++ [c]).set h.length c' = h ++ [c'] := by simp
/-- a comprehension of what is reckoned of each -/
theorem lcM_map {ds : List D} {gg : MG} (F : D → D) (hl : ds.length ≤ 9000000) (step : ∀ d ∈ ds, ∃ e1, gg d env = some e1 ∧ ∀ x, m e1 (h ++ [x]) = .ok (F d) (h ++ [x])) :
    lcM (.st ds) gg mYes m h.length ((Src.st ds).many h' + 1) 0 env (h ++ [.lst []]) = .ok (.ref h.length) (h ++ [.lst (ds.map F)]) := by
  refine lcM_inv (P := fun i h' => h' = h ++ [.lst ((ds.take i).map F)]) (Rs := fun r => r = .ok (.ref h.length) (h ++ [.lst (ds.map F)])) ?_ ?_ ?_
  · intro i d h' hd hp
    subst hp
    obtain ⟨e1, g1, st⟩ := step d (List.mem_of_getElem? hd)
    refine ⟨e1, g1, ?_⟩
    show ∃ y h3 acc, m e1 _ = .ok y h3 ∧ _
    refine ⟨F d, _, _, st _, get_last, ?_, ?_⟩
    · rw [List.length_map, List.length_take]
      omega
    · rw [set_last, List.take_add_one, hd]
      simp
  · intro h' hp
    rw [hp, List.take_length]
  · simp
theorem lcM_filter {ds : List D} {gg : MG} (F : D → D) (p : D → Bool) (hl : ds.length ≤ 9000000) (step : ∀ d ∈ ds, ∃ e1, gg d env = some e1 ∧ (∀ x, t e1 (h ++ [x]) = .ok (p d) (h ++ [x])) ∧ ∀ x, p d = true → m e1 (h ++ [x]) = .ok (F d) (h ++ [x])) :
    lcM (.st ds) gg t m h.length ((Src.st ds).many h' + 1) 0 env (h ++ [.lst []]) = .ok (.ref h.length) (h ++ [.lst ((ds.filter p).map F)]) := by
  refine lcM_inv (P := fun i h' => h' = h ++ [.lst (((ds.take i).filter p).map F)]) (Rs := fun r => r = .ok (.ref h.length) (h ++ [.lst ((ds.filter p).map F)])) ?_ ?_ ?_
  · intro i d h' hd hp
    subst hp
    obtain ⟨e1, g1, tt, st⟩ := step d (List.mem_of_getElem? hd)
    refine ⟨e1, g1, ?_⟩
    rw [tt]
    cases hpd : p d with
    | true =>
      dsimp only
      refine ⟨F d, _, _, st _ hpd, get_last, ?_, ?_⟩
      · rw [List.length_map]
        have := List.length_filter_le p (ds.take i)
        rw [List.length_take] at this
        omega
      · rw [set_last, List.take_add_one, hd]
        simp [hpd]
    | false =>
      dsimp only
      rw [List.take_add_one, hd]
      simp [hpd]
  · intro h' hp
    rw [hp, List.take_length]
  · simp
theorem joinN_nil : ∀ ys : List (List Nat), joinN [] ys = ys.flatten
  | [] => rfl
  | [x] => by simp [joinN]
  | x :: y :: r => by
    unfold joinN
    rw [joinN_nil (y :: r)]
    simp
theorem sum_lens (ys : List (List Nat)) : (ys.map List.length).sum = ys.flatten.length := by
  induction ys with
  | nil => rfl
  | cons y ys ih => rw [List.map_cons, List.sum_cons, ih, List.flatten_cons, List.length_append]
theorem join_nil_eq {h : IH} {n : Nat} {ys : List (List Nat)} (e : h[n]? = some (.lst (ys.map D.str))) (l : ys.flatten.length ≤ 10000000) : fJoin (.str []) [.ref n] h = .ok (.str ys.flatten) h := by
  unfold fJoin; dsimp only
  have e1 : (seqOf h (.ref n)).bind (allM D.str?) = some ys := by
    unfold seqOf
    dsimp only
    rw [e]
    exact allM_mkStrs ys
  rw [e1]
  dsimp only
  rw [sum_lens, List.length_nil, Nat.mul_zero, Nat.add_zero, joinN_nil, if_pos l]
theorem ixN_toNat {n : Nat} {i : Int} (h0 : 0 ≤ i) (h1 : i < n) : ixN n i = some i.toNat := by
  unfold ixN
  rw [if_pos h0, if_pos h1]
theorem dIx_str {s : List Nat} {i : Int} {c : Nat} (h0 : 0 ≤ i) (e : s[i.toNat]? = some c) (l : s.length ≤ 10000000) : dIx (.str s) (.int i) h = .ok (.str [c]) h := by
  have hi := (List.getElem?_eq_some_iff.mp e).1
  show getD' _ _ _ = _
  unfold getD'
  dsimp only
  rw [ixN_toNat h0 (by omega)]
  dsimp only [Option.bind]
  rw [e]
  dsimp only
  rw [if_pos l]
theorem dIx_seq {o : D} {xs : List D} {i : Int} {d : D} (hs : seqOf h o = some xs) (h0 : 0 ≤ i) (e : xs[i.toNat]? = some d) : dIx o (.int i) h = .ok d h := by
  have hi := (List.getElem?_eq_some_iff.mp e).1
  show getD' _ _ _ = _
  unfold getD'
  cases o with
  | str s => simp [seqOf] at hs
  | _ =>
    dsimp only
    rw [hs]
    dsimp only [Option.bind]
    rw [ixN_toNat h0 (by omega)]
    dsimp only [Option.bind]
    rw [e]
/-- an item of a list's cell -/
theorem dIx_ref {n : Nat} {xs : List D} {i : Int} {d : D} (hs : h[n]? = some (.lst xs)) (h0 : 0 ≤ i) (e : xs[i.toNat]? = some d) : dIx (.ref n) (.int i) h = .ok d h := dIx_seq (by unfold seqOf; dsimp only; rw [hs]) h0 e
theorem putD_ref {n : Nat} {xs : List D} {i : Int} {v : D} (hs : h[n]? = some (.lst xs)) (h0 : 0 ≤ i) (l : i < xs.length) : putD (.ref n) (.int i) v h = some (h.set n (.lst (xs.set i.toNat v))) := by
  unfold putD
  dsimp only
  rw [hs]
  dsimp only
  rw [ixN_toNat h0 l]
  rfl
theorem getL_ref {n : Nat} {xs : List D} {i : Int} {d : D} (hs : h[n]? = some (.lst xs)) (h0 : 0 ≤ i) (e : xs[i.toNat]? = some d) : getL (.ref n) (.int i) h = some d := by
  have hi := (List.getElem?_eq_some_iff.mp e).1
  unfold getL
  dsimp only
  unfold lstOf
  dsimp only
  rw [hs]
  dsimp only [Option.bind]
  rw [ixN_toNat h0 (by omega)]
  dsimp only [Option.bind]
  rw [e]
theorem sIx_int {n d : Nat} {i : Int} (h0 : 0 ≤ i) : HT.sIx n d (some i) = min i.toNat n := by
  show (if i < 0 then (i + (n : Int)).toNat else min i.toNat n) = _
  rw [if_neg (by omega)]
theorem cut_two {A : Type} (xs : List A) (a b : Nat) : (xs.drop (min a xs.length)).take (min b xs.length - min a xs.length) = (xs.drop a).take (b - a) := by
  apply List.ext_getElem?
  intro j
  rw [List.getElem?_take, List.getElem?_take, List.getElem?_drop, List.getElem?_drop]
  by_cases ha : a ≤ xs.length
  · rw [Nat.min_eq_left ha]
    by_cases hb : b ≤ xs.length
    · rw [Nat.min_eq_left hb]
    · rw [Nat.min_eq_right (by omega)]
      by_cases hj : j < xs.length - a
      · rw [if_pos hj, if_pos (by omega)]
      · rw [if_neg hj, List.getElem?_eq_none (by omega)]
        split <;> rfl
  · rw [List.getElem?_eq_none (i := a + j) (by omega), List.getElem?_eq_none (i := min a xs.length + j) (by rw [Nat.min_eq_right (show xs.length ≤ a by omega)]; omega)]
    split <;> split <;> rfl
theorem cutN_two {xs : List Nat} {i j : Int} (h0 : 0 ≤ i) (h1 : 0 ≤ j) : cutN xs (some i) (some j) = (xs.drop i.toNat).take (j.toNat - i.toNat) := by
  unfold cutN
  rw [sIx_int h0, sIx_int h1, cut_two]
theorem cutN_to {xs : List Nat} {j : Int} (h1 : 0 ≤ j) : cutN xs none (some j) = xs.take j.toNat := by
  unfold cutN
  rw [sIx_int h1, HT.sIx_none, List.drop_zero, Nat.sub_zero]
  apply List.ext_getElem?
  intro k
  rw [List.getElem?_take, List.getElem?_take]
  by_cases hk : k < j.toNat
  · rw [if_pos hk]
    by_cases hx : k < xs.length
    · rw [if_pos (by omega)]
    · rw [List.getElem?_eq_none (by omega)]
      split <;> rfl
  · rw [if_neg hk, if_neg (by omega)]
theorem cutN_from {xs : List Nat} {i : Int} (h1 : 0 ≤ i) : cutN xs (some i) none = xs.drop i.toNat := by
  unfold cutN
  rw [sIx_int h1, HT.sIx_none]
  have e := cut_two xs i.toNat xs.length
  rw [Nat.min_self] at e
  rw [e, List.take_of_length_le (by rw [List.length_drop]; exact Nat.le_refl _)]
theorem cutD_two {xs : List D} {i j : Int} (h0 : 0 ≤ i) (h1 : 0 ≤ j) : cutD xs (some i) (some j) = (xs.drop i.toNat).take (j.toNat - i.toNat) := by
  unfold cutD
  rw [sIx_int h0, sIx_int h1, cut_two]
theorem cutD_to {xs : List D} {j : Int} (h1 : 0 ≤ j) : cutD xs none (some j) = xs.take j.toNat := by
  unfold cutD
  rw [sIx_int h1, HT.sIx_none, List.drop_zero, Nat.sub_zero]
  apply List.ext_getElem?
  intro k
  rw [List.getElem?_take, List.getElem?_take]
  by_cases hk : k < j.toNat
  · rw [if_pos hk]
    by_cases hx : k < xs.length
    · rw [if_pos (by omega)]
    · rw [List.getElem?_eq_none (by omega)]
      split <;> rfl
  · rw [if_neg hk, if_neg (by omega)]
theorem cutD_from {xs : List D} {i : Int} (h1 : 0 ≤ i) : cutD xs (some i) none = xs.drop i.toNat := by
  unfold cutD
  rw [sIx_int h1, HT.sIx_none]
  have e := cut_two xs i.toNat xs.length
  rw [Nat.min_self] at e
  rw [e, List.take_of_length_le (by rw [List.length_drop]; exact Nat.le_refl _)]
theorem bLen_str_if {s : List Nat} : bLen [.str s] h = if s.length ≤ 10000000 then .ok (.int (s.length : Nat)) h else .no := rfl
@[simp] theorem bLen_tup {l : List D} : bLen [.tup l] h = .ok (.int (l.length : Nat)) h := rfl
theorem bLen_ref {n : Nat} {xs : List D} (e : h[n]? = some (.lst xs)) : bLen [.ref n] h = .ok (.int (xs.length : Nat)) h := by
  unfold bLen
  dsimp only
  rw [e]
@[simp] theorem bAbs_int {i : Int} : bAbs [.int i] h = .ok (.int (if i < 0 then -i else i)) h := rfl
@[simp] theorem bMax2_int {i j : Int} : bMax2 [.int i, .int j] h = .ok (.int (if j > i then j else i)) h := rfl
@[simp] theorem bMin2_int {i j : Int} : bMin2 [.int i, .int j] h = .ok (.int (if j < i then j else i)) h := rfl
@[simp] theorem bInt1_int {i : Int} : bInt1 [.int i] h = .ok (.int i) h := rfl
@[simp] theorem bInt1_bl {b : Bool} : bInt1 [.bl b] h = .ok (.int (if b then 1 else 0)) h := rfl
@[simp] theorem dIAdd_int {i j : Int} : dIAdd (.int i) (.int j) h = .ok (.int (i + j)) h := rfl
theorem dIAdd_str_if {a b : List Nat} : dIAdd (.str a) (.str b) h = if a.length + b.length ≤ 10000000 then .ok (.str (a ++ b)) h else .no := rfl
@[simp] theorem dISub_int {i j : Int} : dISub (.int i) (.int j) h = .ok (.int (i - j)) h := rfl
theorem sliceD_str_if {s : List Nat} {l u : Option Int} : sliceD (.str s) l u h = if s.length ≤ 10000000 then .ok (.str (cutN s l u)) h else .no := rfl
@[simp] theorem sliceD_tup {s : List D} {l u : Option Int} : sliceD (.tup s) l u h = .ok (.tup (cutD s l u)) h := rfl
theorem is_str_str {s : List Nat} : isT "str" h (.str s) = some true := by
  show kitB "str" "str" = some true
  decide +kernel
theorem set_same {n : Nat} {c : Cell} (e : h[n]? = some c) : h.set n c = h := by
  apply List.ext_getElem?
  intro j
  by_cases hj : n = j
  · subst hj
    rw [List.getElem?_set_self (List.getElem?_eq_some_iff.mp e).1, e]
  · rw [List.getElem?_set_ne hj]
theorem get_set {n : Nat} {c c' : Cell} (e : h[n]? = some c) : (h.set n c')[n]? = some c' := List.getElem?_set_self (List.getElem?_eq_some_iff.mp e).1
theorem get_set_ne {n j : Nat} {c : Cell} (ne : n ≠ j) : (h.set n c)[j]? = h[j]? := List.getElem?_set_ne ne
@[simp] theorem loL_ints {n : Nat} (ns : List Int) : D.loL n (ns.map D.int) = true := by
  induction ns with
  | nil => simp [D.loL]
  | cons x xs ih => simp [D.loL, D.lo, ih]
@[simp] theorem loL_strs {n : Nat} (ns : List (List Nat)) : D.loL n (ns.map D.str) = true := by
  induction ns with
  | nil => simp [D.loL]
  | cons x xs ih => simp [D.loL, D.lo, ih]
/-! locked at once -/
open Classical in
/-- a new list that is locked at once -/
noncomputable def fzD (h h1 : IH) (xs : List D) : R D := fzR h (newL h1 xs)
theorem fz_newL {xs : List D} : fzR h (newL h' xs) = fzD h h' xs := rfl
theorem fz_bind {r : R A} {k : A → IH → R D} : fzR h (r.bind k) = r.bind fun a h1 => fzR h (k a h1) := by cases r <;> rfl
theorem fz_ite {p : Prop} [Decidable p] {r1 r2 : R D} : fzR h (if p then r1 else r2) = if p then fzR h r1 else fzR h r2 := by split <;> rfl
@[simp] theorem fz_no : fzR h .no = .no := rfl
@[simp] theorem fz_ex {c : Str} {d : XF} : fzR h (.ex c d h') = .ex c d h' := rfl
@[simp] theorem fz_non : fzR h (.ok .non h') = .ok .non h' := rfl
@[simp] theorem fz_bl {b : Bool} : fzR h (.ok (.bl b) h') = .ok (.bl b) h' := rfl
@[simp] theorem fz_int {b : Int} : fzR h (.ok (.int b) h') = .ok (.int b) h' := rfl
@[simp] theorem fz_str {b : List Nat} : fzR h (.ok (.str b) h') = .ok (.str b) h' := rfl
@[simp] theorem fz_tup {b : List D} : fzR h (.ok (.tup b) h') = .ok (.tup b) h' := rfl
@[simp] theorem fz_fl {b : List D} : fzR h (.ok (.fl b) h') = .ok (.fl b) h' := rfl
@[simp] theorem fz_fd {ks : List DKey} {b : List D} : fzR h (.ok (.fd ks b) h') = .ok (.fd ks b) h' := rfl
theorem fzR_at {n : Nat} {xs : List D} (e : h'[n]? = some (.lst xs)) (hn : h.length ≤ n) (lo : D.loL h.length xs = true) (ok : okB h.length h h') : fzR h (.ok (.ref n) h') = .ok (.fl xs) (h'.take h.length) := by
  unfold fzR
  dsimp only
  rw [e]
  dsimp only
  rw [if_pos ⟨hn, lo, ok⟩]
theorem fzD_same {xs : List D} (lo : D.loL h.length xs = true) : fzD h h xs = .ok (.fl xs) h := by
  unfold fzD newL
  rw [fzR_at (xs := xs) (by simp) (Nat.le_refl _) lo okB_self]
  simp
theorem fzD_pen {xs : List D} {z c c' : Cell} {g : IH} (lo : ∀ k, D.loL k xs = true) (lc : ∀ k, Cell.lo k c' = true) : fzD (z :: c :: g) (z :: c' :: g) xs = .ok (.fl xs) (z :: c' :: g) := by
  unfold fzD newL
  rw [fzR_at (n := (z :: c' :: g).length) (xs := xs) (by simp) (by simp) (lo _) (by simp [lc])]
  simp
/-- with old cells changed: nothing new is told of -/
theorem fzD_len {xs : List D} (hl : h'.length = h.length) (lo : D.loL h.length xs = true) (ok : okB h.length h (h' ++ [.lst xs])) : fzD h h' xs = .ok (.fl xs) h' := by
  unfold fzD newL
  rw [fzR_at (xs := xs) (by simp) (by omega) lo ok]
  simp [← hl]
theorem ap_mFz0 : mFz m env h = fzR h (m env h) := rfl
@[simp] theorem ap_mFz_lst : mFz (mLst ta) env h = (ta env h).bind fun xs h1 => if xs.length ≤ 10000000 then fzD h h1 xs else .no := by
  rw [ap_mFz0, ap_mLst, fz_bind]
  congr 1
  funext xs h1
  rw [fz_ite]
  rfl
@[simp] theorem ap_mFz_op : mFz (mOp f a b) env h = (a env h).bind fun x h1 => (b env h1).bind fun y h2 => fzR h (f x y h2) := by
  rw [ap_mFz0, ap_mOp, fz_bind]
  congr 1
  funext x h1
  rw [fz_bind]
@[simp] theorem ap_mFz_slice {l u : MO} : mFz (mSlice m l u) env h = (m env h).bind fun x h1 => (l env h1).bind fun l h2 => (u env h2).bind fun u h3 => fzR h (sliceD x l u h3) := by
  rw [ap_mFz0, ap_mSlice, fz_bind]
  congr 1
  funext x h1
  rw [fz_bind]
  congr 1
  funext x h1
  rw [fz_bind]
@[simp] theorem ap_mFz_B {fb : List D → IH → R D} : mFz (mB fb ta) env h = (ta env h).bind fun xs h1 => fzR h (fb xs h1) := by rw [ap_mFz0, ap_mB, fz_bind]
@[simp] theorem ap_mFz_call {n : Nat} {fm : MF} : mFz (mCall n fm ta) env h = (ta env h).bind fun ds h1 => fzR h (callC n fm ds h1) := by rw [ap_mFz0, ap_mCall, fz_bind]
@[simp] theorem ap_msRaise {x : Str} : msRaise x env h = .ex x none env h := rfl
@[simp] theorem ap_msFz_fl {i : Nat} {xs : List D} {b : MS} (e : env[i]? = some (some (.fl xs))) : msFz i b env h = b env h := by unfold msFz; rw [e]
theorem ap_msFz {i n : Nat} {xs : List D} {b : MS} (e : env[i]? = some (some (.ref n))) (e2 : h[n]? = some (.lst xs)) : msFz i b env h = b (env.set i (some (.fl xs))) (h.set n (.frz xs)) := by unfold msFz; rw [e]; dsimp only; rw [e2]
theorem dAdd_fl {a b : List D} : dAdd (.fl a) (.fl b) h = if a.length + b.length ≤ 10000000 then newL h (a ++ b) else .no := rfl
theorem dAdd_tup {a b : List D} : dAdd (.tup a) (.tup b) h = if a.length + b.length ≤ 10000000 then .ok (.tup (a ++ b)) h else .no := rfl
theorem sliceD_fl {l : List D} {lo hi : Option Int} : sliceD (.fl l) lo hi h = newL h (cutD l lo hi) := rfl
theorem bListX_str {s : List Nat} : bListX [.str s] h = if s.length ≤ 10000000 then newL h (sgD s) else .no := rfl
theorem bListX_fl {s : List D} : bListX [.fl s] h = newL h s := rfl
theorem bListX_tup {s : List D} : bListX [.tup s] h = newL h s := rfl
@[simp] theorem bTupleX_fl {s : List D} : bTupleX [.fl s] h = .ok (.tup s) h := rfl
@[simp] theorem bTupleX_tup {s : List D} : bTupleX [.tup s] h = .ok (.tup s) h := rfl
@[simp] theorem bLen_fl {l : List D} : bLen [.fl l] h = .ok (.int (l.length : Nat)) h := rfl
@[simp] theorem bSum_fl {ns : List Int} : bSum [.fl (ns.map D.int)] h = .ok (.int ns.sum) h := by
  show (match (some (ns.map D.int)).bind (allM D.int?) with | some ns => R.ok (D.int ns.sum) h | none => .no) = _
  simp
@[simp] theorem bAll_fl {ns : List Bool} : bAll [.fl (ns.map D.bl)] h = .ok (.bl (ns.all id)) h := by
  show (match (some (ns.map D.bl)).bind (allM D.bl?) with | some bs => R.ok (D.bl (bs.all id)) h | none => .no) = _
  simp
@[simp] theorem bAny_fl {ns : List Bool} : bAny [.fl (ns.map D.bl)] h = .ok (.bl (ns.any id)) h := by
  show (match (some (ns.map D.bl)).bind (allM D.bl?) with | some bs => R.ok (D.bl (bs.any id)) h | none => .no) = _
  simp
theorem bSorted_fl {ns : List Int} : bSorted [.fl (ns.map D.int)] h = newL h ((isrt ns).map D.int) := by
  show (match (some (ns.map D.int)).bind (allM D.int?) with | some ns => R.ok (D.ref h.length) (h ++ [Cell.lst ((isrt ns).map D.int)]) | none => .no) = _
  simp [newL]
@[simp] theorem isT_fl {T : String} {b : List D} : isT T h (.fl b) = kitB "list" T := rfl
@[simp] theorem isT_fd {T : String} {ks : List DKey} {b : List D} : isT T h (.fd ks b) = kitB "dict" T := rfl
@[simp] theorem tyD_str {T : String} {s : List Nat} : tyD T h (.str s) = (T == "str") := rfl
@[simp] theorem tyD_fl {T : String} {s : List D} : tyD T h (.fl s) = (T == "list") := rfl
@[simp] theorem loL_nil {n : Nat} : D.loL n [] = true := rfl
@[simp] theorem loL_cons {n : Nat} {d : D} {ds : List D} : D.loL n (d :: ds) = (D.lo n d && D.loL n ds) := rfl
@[simp] theorem lo_int {n : Nat} {i : Int} : D.lo n (.int i) = true := rfl
@[simp] theorem lo_bl {n : Nat} {i : Bool} : D.lo n (.bl i) = true := rfl
@[simp] theorem lo_non {n : Nat} : D.lo n .non = true := rfl
@[simp] theorem lo_str {n : Nat} {i : List Nat} : D.lo n (.str i) = true := rfl
@[simp] theorem lo_tup {n : Nat} {i : List D} : D.lo n (.tup i) = D.loL n i := rfl
@[simp] theorem lo_fl {n : Nat} {i : List D} : D.lo n (.fl i) = D.loL n i := rfl
@[simp] theorem lo_fd {n : Nat} {ks : List DKey} {i : List D} : D.lo n (.fd ks i) = D.loL n i := rfl
@[simp] theorem lo_ref {n i : Nat} : D.lo n (.ref i) = decide (i < n) := rfl
@[simp] theorem clo_lst {n : Nat} {i : List D} : Cell.lo n (.lst i) = D.loL n i := rfl
theorem loL_of {n : Nat} : ∀ {ds : List D}, (∀ d ∈ ds, D.lo n d = true) → D.loL n ds = true
  | [], _ => rfl
  | d :: ds, h => by simp [h d List.mem_cons_self, loL_of fun x hx => h x (List.mem_cons_of_mem _ hx)]
theorem loL_mem {n : Nat} : ∀ {ds : List D}, D.loL n ds = true → ∀ d ∈ ds, D.lo n d = true
  | d :: ds, h, x, hx => by
    simp at h
    rcases List.mem_cons.mp hx with rfl | hx
    · exact h.1
    · exact loL_mem h.2 x hx
@[simp] theorem loL_map {T : Type} {n : Nat} {f : T → D} {l : List T} : D.loL n (l.map f) = l.all fun x => D.lo n (f x) := by
  induction l with
  | nil => rfl
  | cons x l ih => simp [ih]
@[simp] theorem loL_app {n : Nat} {a b : List D} : D.loL n (a ++ b) = (D.loL n a && D.loL n b) := by
  induction a with
  | nil => simp
  | cons x l ih => simp [ih, Bool.and_assoc]
/-! numbers from nought -/
def nD (x : Nat) : D := .int (x : Nat)
theorem nD_eq (x : Nat) : nD x = .int (x : Nat) := rfl
@[simp] theorem lo_nD {n x : Nat} : D.lo n (nD x) = true := rfl
theorem nD_inj {a b : Nat} : nD a = nD b ↔ a = b := ⟨fun z => by injection z with z; omega, fun z => by rw [z]⟩
theorem nD_map (l : List Nat) : l.map nD = (l.map fun (x : Nat) => (x : Int)).map D.int := by rw [List.map_map]; rfl
theorem nats_of {m : Nat} : ∀ {ys : List D}, (∀ y ∈ ys, ∃ x, y = nD x ∧ x < m) → ∃ row : List Nat, ys = row.map nD ∧ ∀ x ∈ row, x < m
  | [], _ => ⟨[], rfl, by simp⟩
  | y :: ys, hp => by
    obtain ⟨x, rfl, hx⟩ := hp y List.mem_cons_self
    obtain ⟨row, rfl, hr⟩ := nats_of fun z hz => hp z (List.mem_cons_of_mem _ hz)
    exact ⟨x :: row, rfl, by simpa using ⟨hx, hr⟩⟩
theorem append_at {n : Nat} {xs : List D} {y : D} (e : h[n]? = some (.lst xs)) (l : xs.length < 10000000) : fAppend (.ref n) [y] h = .ok .non (h.set n (.lst (xs ++ [y]))) := by
  unfold fAppend
  dsimp only
  rw [e]
  dsimp only
  rw [if_pos l]
theorem tyD_ref {n : Nat} {xs : List D} (e : h[n]? = some (.lst xs)) : tyD "list" h (.ref n) = true := by
  unfold tyD
  dsimp only
  rw [e]
  rfl
theorem lstOf_ref {n : Nat} {xs : List D} (e : h[n]? = some (.lst xs)) : lstOf h (.ref n) = some xs := by
  unfold lstOf
  dsimp only
  rw [e]
theorem seqOf_ref {n : Nat} {xs : List D} (e : h[n]? = some (.lst xs)) : seqOf h (.ref n) = some xs := by
  unfold seqOf
  dsimp only
  rw [e]
@[simp] theorem seqOf_fl {l : List D} : seqOf h (.fl l) = some l := rfl
@[simp] theorem seqOf_tup {l : List D} : seqOf h (.tup l) = some l := rfl
@[simp] theorem lstOf_fl {l : List D} : lstOf h (.fl l) = some l := rfl
theorem allM_pyInts {k : Nat} (ns : List Int) : allM (D.py h (k + 1)) (ns.map D.int) = some (ns.map PyData.int) := by
  induction ns with
  | nil => rfl
  | cons z zs ih =>
    rw [List.map_cons, List.map_cons]
    unfold allM
    rw [ih]
    rfl
theorem dIn_ints {neg : Bool} {a : Int} {y : D} {ns : List Int} (e : seqOf h y = some (ns.map D.int)) : dIn neg (.int a) y h = .ok (.bl (if neg then !decide (a ∈ ns) else decide (a ∈ ns))) h := by
  have ea : (ns.map PyData.int).any (fun z => PyData.eqv z (.int a)) = decide (a ∈ ns) := by
    clear e
    induction ns with
    | nil => rfl
    | cons n ns ih =>
      have hb : (n == a) = decide (a = n) := by
        by_cases hz : a = n
        · subst hz; simp
        · rw [decide_eq_false hz]; exact beq_eq_false_iff_ne.mpr fun z => hz z.symm
      simp only [List.map_cons, List.any_cons, ih, PyData.eqv, List.mem_cons, Bool.decide_or, hb]
  unfold dIn
  split
  · rename_i h1 h2; cases h2
  · rw [show D.py h 50 (.int a) = some (.int a) from rfl, e]
    show (match some (PyData.int a), allM (D.py h (48 + 1)) (ns.map D.int) with | some a, some bs => R.ok (D.bl _) h | _, _ => .no) = _
    rw [allM_pyInts]
    dsimp only
    rw [ea]
theorem dIn_nats {neg : Bool} {a : Nat} {y : D} {ns : List Nat} (e : seqOf h y = some (ns.map nD)) : dIn neg (.int (a : Nat)) y h = .ok (.bl (if neg then !decide (a ∈ ns) else decide (a ∈ ns))) h := by
  rw [dIn_ints (ns := ns.map fun (x : Nat) => (x : Int)) (by rw [e, nD_map])]
  have : decide (((a : Nat) : Int) ∈ ns.map fun (x : Nat) => (x : Int)) = decide (a ∈ ns) := by
    refine decide_eq_decide.mpr ⟨fun hm => ?_, fun hm => List.mem_map.mpr ⟨a, hm, rfl⟩⟩
    obtain ⟨x, hx, e2⟩ := List.mem_map.mp hm
    have : x = a := by omega
    rw [← this]
    exact hx
  rw [this]
theorem dIx_nat {o : D} {xs : List D} {n : Nat} {d : D} (hs : seqOf h o = some xs) (e : xs[n]? = some d) : dIx o (.int (n : Nat)) h = .ok d h := dIx_seq hs (by omega) (by simpa using e)
theorem idxOf_cast (ns : List Nat) (y : Nat) : (ns.map fun (x : Nat) => (x : Int)).idxOf (y : Int) = ns.idxOf y := by
  induction ns with
  | nil => rfl
  | cons n ns ih =>
    rw [List.map_cons, List.idxOf_cons, List.idxOf_cons, ih]
    have : (((n : Nat) : Int) == (y : Int)) = (n == y) := by
      rw [Bool.eq_iff_iff, beq_iff_eq, beq_iff_eq]
      omega
    rw [this]
theorem fIndexL_nats {ns : List Nat} {y : Nat} (hy : y ∈ ns) : fIndexL (.fl (ns.map nD)) [.int (y : Nat)] h = .ok (nD (ns.idxOf y)) h := by
  unfold fIndexL
  dsimp only
  have e : (lstOf h (.fl (ns.map nD))).bind (allM D.int?) = some (ns.map fun (x : Nat) => (x : Int)) := by
    rw [nD_map]
    exact allM_mkInts _
  rw [e]
  dsimp only
  rw [if_pos (List.mem_map.mpr ⟨y, hy, rfl⟩), idxOf_cast]
  rfl
theorem iRange1_of {j : Int} {k : Nat} (e : ta env h = .ok [.int j] h') (hj : j = (k : Nat)) (l : k ≤ 10000000) : iRange1 ta env h = .ok (.st (intsFrom 0 k)) h' := by
  subst hj
  rw [ap_iRange1, e]
  rw [bind_ok]
  dsimp only
  rw [if_pos ⟨by omega, by omega⟩, Int.toNat_natCast]
theorem iRange2_of {i j : Int} {k : Nat} (e : ta env h = .ok [.int i, .int j] h') (hj : j = i + (k : Nat)) (l0 : -10000000 ≤ i) (l : j ≤ 10000000) : iRange2 ta env h = .ok (.st (intsFrom i k)) h' := by
  subst hj
  rw [ap_iRange2, e]
  rw [bind_ok]
  dsimp only
  rw [if_pos ⟨by omega, by omega, by omega, by omega⟩, show (i + (k : Nat) - i).toNat = k by omega]
/-! what a loop's turn leaves -/
def Nx (P : EV → IH → Prop) (Rs : RS → Prop) : RS → Prop
  | .nx e h => P e h
  | .ct e h => P e h
  | .bk e h => Rs (.nx e h)
  | .rt d h => Rs (.rt d h)
  | .ex c d e h => Rs (.ex c d e h)
  | .no => Rs .no
section
variable {P : EV → IH → Prop} {Rs : RS → Prop}
@[simp] theorem Nx_nx : Nx P Rs (.nx env h) = P env h := rfl
@[simp] theorem Nx_ct : Nx P Rs (.ct env h) = P env h := rfl
@[simp] theorem Nx_bk : Nx P Rs (.bk env h) = Rs (.nx env h) := rfl
@[simp] theorem Nx_rt : Nx P Rs (.rt d h) = Rs (.rt d h) := rfl
@[simp] theorem Nx_ex {c : Str} {x : XF} : Nx P Rs (.ex c x env h) = Rs (.ex c x env h) := rfl
end
/-- a for over what stands still, by an invariant -/
theorem for_inv {ds : List D} {gg : MG} (P : Nat → EV → IH → Prop) (Rs : RS → Prop) (h0 : P 0 env h)
    (step : ∀ i d env h, ds[i]? = some d → P i env h → ∃ e1, gg d env = some e1 ∧ Nx (P (i + 1)) Rs (s e1 h)) (fin : ∀ env h, P ds.length env h → Rs (.nx env h)) : Rs (forM (.st ds) gg s ((Src.st ds).many h' + 1) 0 env h) := by
  refine forM_inv (h := h) P Rs (fun i d env h hd hp => ?_) fin h0
  obtain ⟨e1, g1, st⟩ := step i d env h hd hp
  refine ⟨e1, g1, ?_⟩
  revert st
  cases s e1 h <;> exact fun z => z
/-- a for that runs to its end -/
theorem for_nx {ds : List D} {gg : MG} (P : Nat → EV → IH → Prop) (h0 : P 0 env h)
    (step : ∀ i d env h, ds[i]? = some d → P i env h → ∃ e1 e2 h2, gg d env = some e1 ∧ s e1 h = .nx e2 h2 ∧ P (i + 1) e2 h2) : ∃ e2 h2, forM (.st ds) gg s ((Src.st ds).many h + 1) 0 env h = .nx e2 h2 ∧ P ds.length e2 h2 :=
  for_inv P (fun r => ∃ e2 h2, r = .nx e2 h2 ∧ P ds.length e2 h2) h0 (fun i d env h hd hp => by
    obtain ⟨e1, e2, h2, g1, g2, g3⟩ := step i d env h hd hp
    exact ⟨e1, g1, by rw [g2]; exact g3⟩) fun env h hp => ⟨env, h, rfl, hp⟩
/-- a for that runs to its end, or returns -/
theorem for_rt {ds : List D} {gg : MG} (P : Nat → EV → IH → Prop) (Q : D → IH → Prop) (h0 : P 0 env h)
    (step : ∀ i d env h, ds[i]? = some d → P i env h → ∃ e1, gg d env = some e1 ∧ ((∃ e2 h2, s e1 h = .nx e2 h2 ∧ P (i + 1) e2 h2) ∨ ∃ x h2, s e1 h = .rt x h2 ∧ Q x h2)) :
    (∃ e2 h2, forM (.st ds) gg s ((Src.st ds).many h + 1) 0 env h = .nx e2 h2 ∧ P ds.length e2 h2) ∨ ∃ x h2, forM (.st ds) gg s ((Src.st ds).many h + 1) 0 env h = .rt x h2 ∧ Q x h2 :=
  for_inv P (fun r => (∃ e2 h2, r = .nx e2 h2 ∧ P ds.length e2 h2) ∨ ∃ x h2, r = .rt x h2 ∧ Q x h2) h0 (fun i d env h hd hp => by
    obtain ⟨e1, g1, ⟨e2, h2, g2, g3⟩ | ⟨x, h2, g2, g3⟩⟩ := step i d env h hd hp
    · exact ⟨e1, g1, by rw [g2]; exact g3⟩
    · exact ⟨e1, g1, by rw [g2]; exact .inr ⟨x, h2, rfl, g3⟩⟩) fun env h hp => .inl ⟨env, h, rfl, hp⟩
theorem while_nx {c : MT} (P : Nat → EV → IH → Prop) (m : Nat) (env : EV) (h : IH) (h0 : P m env h)
    (step : ∀ m env h, P m env h → (∃ e2 h2, c env h = .ok true h ∧ s env h = .nx e2 h2 ∧ ∃ m', m' < m ∧ P m' e2 h2) ∨ c env h = .ok false h) : ∃ m e2 h2, msWhile c s env h = .nx e2 h2 ∧ P m e2 h2 ∧ c e2 h2 = .ok false h2 := by
  refine msWhile_inv P (fun r => ∃ m e2 h2, r = .nx e2 h2 ∧ P m e2 h2 ∧ c e2 h2 = .ok false h2) (fun m env h p => ?_) m env h h0
  rcases step m env h p with ⟨e2, h2, g1, g2, g3⟩ | g1
  · rw [g1]; dsimp only; rw [g2]
    exact g3
  · rw [g1]
    exact ⟨m, env, h, rfl, p, g1⟩
theorem while_inv {c : MT} (P : Nat → EV → IH → Prop) (Rs : RS → Prop) (m : Nat) (env : EV) (h : IH) (h0 : P m env h)
    (step : ∀ m env h, P m env h → ∃ b, c env h = .ok b h ∧ (if b = true then Nx (fun e2 h2 => ∃ m', m' < m ∧ P m' e2 h2) Rs (s env h) else Rs (.nx env h))) : Rs (msWhile c s env h) := by
  refine msWhile_inv P Rs (fun m env h p => ?_) m env h h0
  obtain ⟨b, e, st⟩ := step m env h p
  rw [e]
  cases b with
  | false => simpa using st
  | true =>
    simp only [if_true] at st
    dsimp only
    revert st
    cases s env h <;> exact fun z => z
/-- a comprehension that is locked at once: of what is reckoned of each -/
theorem lcF_map {it : MI} {gg : MG} {ws : List Nat} {ds : List D} (F : D → D) (hi : it env h = .ok (.st ds) h) (hl : ds.length ≤ 9000000) (lo : ∀ d ∈ ds, D.lo h.length (F d) = true)
    (step : ∀ d ∈ ds, ∃ e1, gg d (wipeE env ws) = some e1 ∧ ∀ x, m e1 (h ++ [x]) = .ok (F d) (h ++ [x])) : mFz (mLc it gg mYes m ws) env h = .ok (.fl (ds.map F)) h := by
  rw [ap_mFz0, ap_mLc, hi]
  show fzR h (lcM _ _ _ _ _ _ _ _ _) = _
  rw [lcM_map F hl step, fzR_at get_last (Nat.le_refl _) (loL_of fun x hx => by obtain ⟨d, hd, rfl⟩ := List.mem_map.mp hx; exact lo d hd) okB_self]
  simp
theorem lcF_filter {it : MI} {gg : MG} {ws : List Nat} {ds : List D} (F : D → D) (p : D → Bool) (hi : it env h = .ok (.st ds) h) (hl : ds.length ≤ 9000000) (lo : ∀ d ∈ ds, p d = true → D.lo h.length (F d) = true)
    (step : ∀ d ∈ ds, ∃ e1, gg d (wipeE env ws) = some e1 ∧ (∀ x, t e1 (h ++ [x]) = .ok (p d) (h ++ [x])) ∧ ∀ x, p d = true → m e1 (h ++ [x]) = .ok (F d) (h ++ [x])) : mFz (mLc it gg t m ws) env h = .ok (.fl ((ds.filter p).map F)) h := by
  rw [ap_mFz0, ap_mLc, hi]
  show fzR h (lcM _ _ _ _ _ _ _ _ _) = _
  rw [lcM_filter F p hl step, fzR_at get_last (Nat.le_refl _) (loL_of fun x hx => by
    obtain ⟨d, hd, rfl⟩ := List.mem_map.mp hx
    exact lo d (List.mem_filter.mp hd).1 (List.mem_filter.mp hd).2) okB_self]
  simp
/-- .. whose steps draw: Pn b c says that the pen's cell c can draw b times -/
theorem lcF_pen {it : MI} {gg : MG} {ws : List Nat} {ds : List D} {z c0 : Cell} {g : IH} {Pn : Nat → Cell → Prop} {b K : Nat} (lop : ∀ b c k, Pn b c → Cell.lo k c = true) (Po : Nat → D → Prop) (hi : it env (z :: c0 :: g) = .ok (.st ds) (z :: c0 :: g)) (hl : ds.length ≤ 9000000)
    (hp : Pn (b + K * ds.length) c0) (lo : ∀ i y k, Po i y → D.lo k y = true)
    (step : ∀ i d, ds[i]? = some d → ∃ e1, gg d (wipeE env ws) = some e1 ∧ ∀ b c g, Pn (b + K) c → ∃ y c', m e1 (z :: c :: g) = .ok y (z :: c' :: g) ∧ Pn b c' ∧ Po i y) :
    ∃ ys c', mFz (mLc it gg mYes m ws) env (z :: c0 :: g) = .ok (.fl ys) (z :: c' :: g) ∧ ys.length = ds.length ∧ (∀ i y, ys[i]? = some y → Po i y) ∧ Pn b c' := by
  have main : ∃ ys c', lcM (.st ds) gg mYes m (z :: c0 :: g).length ((Src.st ds).many (z :: c0 :: g) + 1) 0 (wipeE env ws) ((z :: c0 :: g) ++ [Cell.lst []]) = .ok (.ref (z :: c0 :: g).length) (z :: c' :: (g ++ [Cell.lst ys])) ∧ ys.length = ds.length ∧ (∀ i y, ys[i]? = some y → Po i y) ∧ Pn b c' := by
    refine lcM_inv (P := fun i h' => ∃ ys c', h' = z :: c' :: (g ++ [Cell.lst ys]) ∧ ys.length = i ∧ (∀ j y, ys[j]? = some y → Po j y) ∧ Pn (b + K * (ds.length - i)) c') (Rs := fun r => ∃ ys c', r = .ok (.ref (z :: c0 :: g).length) (z :: c' :: (g ++ [Cell.lst ys])) ∧ ys.length = ds.length ∧ (∀ i y, ys[i]? = some y → Po i y) ∧ Pn b c') ?_ ?_ ?_
    · rintro i d h' hd ⟨ys, c', rfl, l1, p1, n1⟩
      have hi' := (List.getElem?_eq_some_iff.mp hd).1
      obtain ⟨e1, g1, st⟩ := step i d hd
      have e0 : ds.length - i = (ds.length - (i + 1)) + 1 := by omega
      rw [e0, Nat.mul_succ, ← Nat.add_assoc] at n1
      obtain ⟨y, c2, e2, n2, p2⟩ := st _ c' (g ++ [Cell.lst ys]) n1
      refine ⟨e1, g1, ?_⟩
      show ∃ y h3 acc, m e1 _ = .ok y h3 ∧ _
      refine ⟨y, _, ys, e2, by simp, by omega, ys ++ [y], c2, by simp, by simp [l1], fun j z hz => ?_, n2⟩
      by_cases hj : j < ys.length
      · rw [List.getElem?_append_left hj] at hz
        exact p1 j z hz
      · have hj2 : j = ys.length := by
          have := (List.getElem?_eq_some_iff.mp hz).1
          simp at this
          omega
        subst hj2
        rw [List.getElem?_append_right (Nat.le_refl _), Nat.sub_self] at hz
        simp at hz
        subst hz
        rw [l1]
        exact p2
    · rintro h' ⟨ys, c', rfl, l1, p1, n1⟩
      rw [Nat.sub_self, Nat.mul_zero, Nat.add_zero] at n1
      exact ⟨ys, c', rfl, l1, p1, n1⟩
    · exact ⟨[], c0, by simp, rfl, by simp, by simpa using hp⟩
  obtain ⟨ys, c', e, l1, p1, n1⟩ := main
  refine ⟨ys, c', ?_, l1, p1, n1⟩
  rw [ap_mFz0, ap_mLc, hi]
  show fzR _ (lcM _ _ _ _ _ _ _ _ _) = _
  rw [e, fzR_at (xs := ys) (by simp) (Nat.le_refl _) (loL_of fun x hx => by
    obtain ⟨j, hj⟩ := List.mem_iff_getElem?.mp hx
    exact lo j x _ (p1 j x hj)) (by simp [lop b c' _ n1])]
  simp
/-! with the lengths as premises: for simp (disch := ..) -/
theorem dAdd_str {a b : List Nat} (l : a.length + b.length ≤ 10000000) : dAdd (.str a) (.str b) h = .ok (.str (a ++ b)) h := by rw [dAdd_str_if, if_pos l]
theorem dIAdd_str {a b : List Nat} (l : a.length + b.length ≤ 10000000) : dIAdd (.str a) (.str b) h = .ok (.str (a ++ b)) h := by rw [dIAdd_str_if, if_pos l]
theorem bLen_str {s : List Nat} (l : s.length ≤ 10000000) : bLen [.str s] h = .ok (.int (s.length : Nat)) h := by rw [bLen_str_if, if_pos l]
theorem sliceD_str {s : List Nat} {lo hi : Option Int} (l : s.length ≤ 10000000) : sliceD (.str s) lo hi h = .ok (.str (cutN s lo hi)) h := by rw [sliceD_str_if, if_pos l]
theorem iSeq_str {env : EV} {m : ME} {s : List Nat} (e : m env h = .ok (.str s) h') (l : s.length ≤ 10000000) : iSeq m env h = .ok (.st (s.map fun c => .str [c])) h' := by
  rw [ap_iSeq, e]
  rw [bind_ok]
  dsimp only
  rw [if_pos l]
end
theorem get_app {h l : IH} {k : Nat} : (h ++ l)[h.length + k]? = l[k]? := by
  rw [List.getElem?_append_right (by omega)]
  congr 1
  omega
theorem get_app0 {h l : IH} : (h ++ l)[h.length]? = l[0]? := by
  rw [List.getElem?_append_right (by omega)]
  congr 1
  omega
theorem set_app {h l : IH} {k : Nat} {c : Cell} : (h ++ l).set (h.length + k) c = h ++ l.set k c := by
  rw [List.set_append, if_neg (by omega)]
  congr 2
  omega
theorem set_app0 {h l : IH} {c : Cell} : (h ++ l).set h.length c = h ++ l.set 0 c := by
  rw [List.set_append, if_neg (by omega)]
  congr 2
  omega
theorem get_old {h l : IH} {j : Nat} {c : Cell} (e : h[j]? = some c) : (h ++ l)[j]? = some c := by
  rw [List.getElem?_append_left (List.getElem?_eq_some_iff.mp e).1]
  exact e
@[simp] theorem dIs_bl {neg : Bool} {a b : Bool} {h : IH} : dIsN neg (.bl a) (.bl b) h = .ok (.bl (if neg then !decide (a = b) else decide (a = b))) h := rfl
@[simp] theorem dIs_non {neg : Bool} {h : IH} : dIsN neg .non .non h = .ok (.bl (!neg)) h := rfl
@[simp] theorem isT_non {T : String} {h : IH} : isT T h .non = kitB "NoneType" T := rfl
@[simp] theorem isT_bl {T : String} {b : Bool} {h : IH} : isT T h (.bl b) = kitB "bool" T := rfl
@[simp] theorem isT_int {T : String} {b : Int} {h : IH} : isT T h (.int b) = kitB "int" T := rfl
@[simp] theorem isT_str {T : String} {b : List Nat} {h : IH} : isT T h (.str b) = kitB "str" T := rfl
@[simp] theorem isT_tup {T : String} {b : List D} {h : IH} : isT T h (.tup b) = kitB "tuple" T := rfl
theorem isT_lst {T : String} {n : Nat} {xs : List D} {h : IH} (e : h[n]? = some (.lst xs)) : isT T h (.ref n) = kitB "list" T := by
  unfold isT
  dsimp only
  rw [e]
theorem isT_dk {T : String} {n : Nat} {xs : List (DKey × D)} {h : IH} (e : h[n]? = some (.dk xs)) : isT T h (.ref n) = kitB "dict" T := by
  unfold isT
  dsimp only
  rw [e]
@[simp] theorem kit_NoneType_bool : kitB "NoneType" "bool" = some false := by decide +kernel
@[simp] theorem kit_NoneType_int : kitB "NoneType" "int" = some false := by decide +kernel
@[simp] theorem kit_NoneType_str : kitB "NoneType" "str" = some false := by decide +kernel
@[simp] theorem kit_NoneType_tuple : kitB "NoneType" "tuple" = some false := by decide +kernel
@[simp] theorem kit_NoneType_list : kitB "NoneType" "list" = some false := by decide +kernel
@[simp] theorem kit_NoneType_dict : kitB "NoneType" "dict" = some false := by decide +kernel
@[simp] theorem kit_bool_bool : kitB "bool" "bool" = some true := by decide +kernel
@[simp] theorem kit_bool_int : kitB "bool" "int" = some true := by decide +kernel
@[simp] theorem kit_bool_str : kitB "bool" "str" = some false := by decide +kernel
@[simp] theorem kit_bool_tuple : kitB "bool" "tuple" = some false := by decide +kernel
@[simp] theorem kit_bool_list : kitB "bool" "list" = some false := by decide +kernel
@[simp] theorem kit_bool_dict : kitB "bool" "dict" = some false := by decide +kernel
@[simp] theorem kit_int_bool : kitB "int" "bool" = some false := by decide +kernel
@[simp] theorem kit_int_int : kitB "int" "int" = some true := by decide +kernel
@[simp] theorem kit_int_str : kitB "int" "str" = some false := by decide +kernel
@[simp] theorem kit_int_tuple : kitB "int" "tuple" = some false := by decide +kernel
@[simp] theorem kit_int_list : kitB "int" "list" = some false := by decide +kernel
@[simp] theorem kit_int_dict : kitB "int" "dict" = some false := by decide +kernel
@[simp] theorem kit_str_bool : kitB "str" "bool" = some false := by decide +kernel
@[simp] theorem kit_str_int : kitB "str" "int" = some false := by decide +kernel
@[simp] theorem kit_str_str : kitB "str" "str" = some true := by decide +kernel
@[simp] theorem kit_str_tuple : kitB "str" "tuple" = some false := by decide +kernel
@[simp] theorem kit_str_list : kitB "str" "list" = some false := by decide +kernel
@[simp] theorem kit_str_dict : kitB "str" "dict" = some false := by decide +kernel
@[simp] theorem kit_tuple_bool : kitB "tuple" "bool" = some false := by decide +kernel
@[simp] theorem kit_tuple_int : kitB "tuple" "int" = some false := by decide +kernel
@[simp] theorem kit_tuple_str : kitB "tuple" "str" = some false := by decide +kernel
@[simp] theorem kit_tuple_tuple : kitB "tuple" "tuple" = some true := by decide +kernel
@[simp] theorem kit_tuple_list : kitB "tuple" "list" = some false := by decide +kernel
@[simp] theorem kit_tuple_dict : kitB "tuple" "dict" = some false := by decide +kernel
@[simp] theorem kit_list_bool : kitB "list" "bool" = some false := by decide +kernel
@[simp] theorem kit_list_int : kitB "list" "int" = some false := by decide +kernel
@[simp] theorem kit_list_str : kitB "list" "str" = some false := by decide +kernel
@[simp] theorem kit_list_tuple : kitB "list" "tuple" = some false := by decide +kernel
@[simp] theorem kit_list_list : kitB "list" "list" = some true := by decide +kernel
@[simp] theorem kit_list_dict : kitB "list" "dict" = some false := by decide +kernel
@[simp] theorem kit_dict_bool : kitB "dict" "bool" = some false := by decide +kernel
@[simp] theorem kit_dict_int : kitB "dict" "int" = some false := by decide +kernel
@[simp] theorem kit_dict_str : kitB "dict" "str" = some false := by decide +kernel
@[simp] theorem kit_dict_tuple : kitB "dict" "tuple" = some false := by decide +kernel
@[simp] theorem kit_dict_list : kitB "dict" "list" = some false := by decide +kernel
@[simp] theorem kit_dict_dict : kitB "dict" "dict" = some true := by decide +kernel
/-! == of data without truths -/
def D.nb : Nat → D → Bool
  | 0, _ => false
  | k + 1, d => match d with
    | .non => true
    | .int _ => true
    | .str _ => true
    | .tup l => l.all (D.nb k)
    | .fl l => l.all (D.nb k)
    | _ => false
theorem nb_py {h : IH} : ∀ {k : Nat} {d : D}, d.nb k = true → ∃ p, D.py h k d = some p := by
  intro k
  induction k with
  | zero => intro d e; simp [D.nb] at e
  | succ k ih =>
    have all : ∀ l : List D, l.all (D.nb k) = true → ∃ ps, allM (D.py h k) l = some ps := by
      intro l
      induction l with
      | nil => exact fun _ => ⟨[], rfl⟩
      | cons d l il =>
        intro e
        simp only [List.all_cons, Bool.and_eq_true] at e
        obtain ⟨p, hp⟩ := ih e.1
        obtain ⟨ps, hps⟩ := il e.2
        exact ⟨p :: ps, by unfold allM; rw [hp, hps]⟩
    intro d e
    cases d with
    | non => exact ⟨_, rfl⟩
    | int i => exact ⟨_, rfl⟩
    | str s => exact ⟨_, rfl⟩
    | tup l =>
      obtain ⟨ps, hps⟩ := all l (by simpa [D.nb] using e)
      exact ⟨.tuple ps, by simp [D.py, hps]⟩
    | fl l =>
      obtain ⟨ps, hps⟩ := all l (by simpa [D.nb] using e)
      exact ⟨.list ps, by simp [D.py, hps]⟩
    | _ => simp [D.nb] at e
theorem nb_eqv {h : IH} : ∀ {k : Nat} {x y : D} {p q : PyData}, x.nb k = true → y.nb k = true → D.py h k x = some p → D.py h k y = some q → (PyData.eqv p q = true ↔ x = y) := by
  intro k
  induction k with
  | zero => intro x y p q e; simp [D.nb] at e
  | succ k ih =>
    have all : ∀ (l m : List D) (ps qs : List PyData), l.all (D.nb k) = true → m.all (D.nb k) = true → allM (D.py h k) l = some ps → allM (D.py h k) m = some qs → (PyData.eqvAll ps qs = true ↔ l = m) := by
      intro l
      induction l with
      | nil =>
        intro m ps qs _ _ e1 e2
        simp only [allM, Option.some.injEq] at e1
        subst e1
        cases m with
        | nil => simp only [allM, Option.some.injEq] at e2; subst e2; simp [PyData.eqvAll]
        | cons d m => obtain ⟨a, as, _, _, rfl⟩ := allM_cons e2; simp [PyData.eqvAll]
      | cons d l il =>
        intro m ps qs a1 a2 e1 e2
        obtain ⟨p, ps', b1, b2, rfl⟩ := allM_cons e1
        simp only [List.all_cons, Bool.and_eq_true] at a1
        cases m with
        | nil => simp only [allM, Option.some.injEq] at e2; subst e2; simp [PyData.eqvAll]
        | cons d' m =>
          obtain ⟨q, qs', c1, c2, rfl⟩ := allM_cons e2
          simp only [List.all_cons, Bool.and_eq_true] at a2
          simp [PyData.eqvAll, ih a1.1 a2.1 b1 c1, il m ps' qs' a1.2 a2.2 b2 c2]
    intro x y p q nx ny ex ey
    cases x with
    | non => cases y with
      | non => simp [D.py] at ex ey; subst ex ey; simp [PyData.eqv]
      | int j => simp [D.py] at ex ey; subst ex ey; simp [PyData.eqv]
      | str t => simp [D.py] at ex ey; subst ex ey; simp [PyData.eqv]
      | tup m => simp only [D.py, Option.map_eq_some_iff] at ex ey; obtain ⟨qs, _, rfl⟩ := ey; simp at ex; subst ex; simp [PyData.eqv]
      | fl m => simp only [D.py, Option.map_eq_some_iff] at ex ey; obtain ⟨qs, _, rfl⟩ := ey; simp at ex; subst ex; simp [PyData.eqv]
      | _ => simp [D.nb] at ny
    | int i => cases y with
      | non => simp [D.py] at ex ey; subst ex ey; simp [PyData.eqv]
      | int j => simp [D.py] at ex ey; subst ex ey; simp [PyData.eqv]
      | str t => simp [D.py] at ex ey; subst ex ey; simp [PyData.eqv]
      | tup m => simp only [D.py, Option.map_eq_some_iff] at ex ey; obtain ⟨qs, _, rfl⟩ := ey; simp at ex; subst ex; simp [PyData.eqv]
      | fl m => simp only [D.py, Option.map_eq_some_iff] at ex ey; obtain ⟨qs, _, rfl⟩ := ey; simp at ex; subst ex; simp [PyData.eqv]
      | _ => simp [D.nb] at ny
    | str s => cases y with
      | non => simp [D.py] at ex ey; subst ex ey; simp [PyData.eqv]
      | int j => simp [D.py] at ex ey; subst ex ey; simp [PyData.eqv]
      | str t =>
        simp [D.py] at ex ey; subst ex ey
        rw [show PyData.eqv (.str (strV s)) (.str (strV t)) = (strV s == strV t) by simp [PyData.eqv], strV_eq]
        simp
      | tup m => simp only [D.py, Option.map_eq_some_iff] at ex ey; obtain ⟨qs, _, rfl⟩ := ey; simp at ex; subst ex; simp [PyData.eqv]
      | fl m => simp only [D.py, Option.map_eq_some_iff] at ex ey; obtain ⟨qs, _, rfl⟩ := ey; simp at ex; subst ex; simp [PyData.eqv]
      | _ => simp [D.nb] at ny
    | tup l =>
      simp only [D.py, Option.map_eq_some_iff] at ex
      obtain ⟨ps, e1, rfl⟩ := ex
      cases y with
      | non => simp [D.py] at ey; subst ey; simp [PyData.eqv]
      | int j => simp [D.py] at ey; subst ey; simp [PyData.eqv]
      | str t => simp [D.py] at ey; subst ey; simp [PyData.eqv]
      | tup m =>
        simp only [D.py, Option.map_eq_some_iff] at ey; obtain ⟨qs, e2, rfl⟩ := ey
        have := all l m ps qs (by simpa [D.nb] using nx) (by simpa [D.nb] using ny) e1 e2
        simp [PyData.eqv, this]
      | fl m => simp only [D.py, Option.map_eq_some_iff] at ey; obtain ⟨qs, _, rfl⟩ := ey; simp [PyData.eqv]
      | _ => simp [D.nb] at ny
    | fl l =>
      simp only [D.py, Option.map_eq_some_iff] at ex
      obtain ⟨ps, e1, rfl⟩ := ex
      cases y with
      | non => simp [D.py] at ey; subst ey; simp [PyData.eqv]
      | int j => simp [D.py] at ey; subst ey; simp [PyData.eqv]
      | str t => simp [D.py] at ey; subst ey; simp [PyData.eqv]
      | fl m =>
        simp only [D.py, Option.map_eq_some_iff] at ey; obtain ⟨qs, e2, rfl⟩ := ey
        have := all l m ps qs (by simpa [D.nb] using nx) (by simpa [D.nb] using ny) e1 e2
        simp [PyData.eqv, this]
      | tup m => simp only [D.py, Option.map_eq_some_iff] at ey; obtain ⟨qs, _, rfl⟩ := ey; simp [PyData.eqv]
      | _ => simp [D.nb] at ny
    | _ => simp [D.nb] at nx
open Classical in
theorem dEq_nb {neg : Bool} {h : IH} {x y : D} (nx : x.nb 50 = true) (ny : y.nb 50 = true) : dEq neg x y h = .ok (.bl (if neg then !decide (x = y) else decide (x = y))) h := by
  obtain ⟨p, hp⟩ := nb_py (h := h) nx
  obtain ⟨q, hq⟩ := nb_py (h := h) ny
  unfold dEq
  rw [hp, hq]
  dsimp only
  have : PyData.eqv p q = decide (x = y) := by
    rw [Bool.eq_iff_iff, nb_eqv nx ny hp hq]
    simp
  rw [this]
/-- a comprehension that is locked at once: each item by what is known of it -/
theorem lcF_ex {env : EV} {h : IH} {m : ME} {it : MI} {gg : MG} {ws : List Nat} {ds : List D} (Po : Nat → D → Prop) (hi : it env h = .ok (.st ds) h) (hl : ds.length ≤ 9000000)
    (step : ∀ i d, ds[i]? = some d → ∃ e1 y, gg d (wipeE env ws) = some e1 ∧ (∀ x, m e1 (h ++ [x]) = .ok y (h ++ [x])) ∧ D.lo h.length y = true ∧ Po i y) : ∃ ys, mFz (mLc it gg mYes m ws) env h = .ok (.fl ys) h ∧ ys.length = ds.length ∧ ∀ i y, ys[i]? = some y → Po i y := by
  let F : D → D := fun d => match gg d (wipeE env ws) with
    | some e1 => match m e1 (h ++ [Cell.lst []]) with
      | .ok y _ => y
      | _ => .non
    | none => .non
  have eF : ∀ i d, ds[i]? = some d → ∃ e1, gg d (wipeE env ws) = some e1 ∧ (∀ x, m e1 (h ++ [x]) = .ok (F d) (h ++ [x])) ∧ D.lo h.length (F d) = true ∧ Po i (F d) := fun i d hd => by
    obtain ⟨e1, y, g1, g2, g3, g4⟩ := step i d hd
    have : F d = y := by
      show (match gg d (wipeE env ws) with
        | some e1 => match m e1 (h ++ [Cell.lst []]) with
          | .ok y _ => y
          | _ => D.non
        | none => D.non) = y
      rw [g1]
      dsimp only
      rw [g2]
    rw [this]
    exact ⟨e1, g1, g2, g3, g4⟩
  refine ⟨ds.map F, lcF_map F hi hl (fun d hd => ?_) (fun d hd => ?_), by simp, fun i y hy => ?_⟩
  · obtain ⟨i, hi⟩ := List.mem_iff_getElem?.mp hd
    obtain ⟨_, _, _, g3, _⟩ := eF i d hi
    exact g3
  · obtain ⟨i, hi⟩ := List.mem_iff_getElem?.mp hd
    obtain ⟨e1, g1, g2, _⟩ := eF i d hi
    exact ⟨e1, g1, g2⟩
  · rw [List.getElem?_map] at hy
    cases q : ds[i]? with
    | none => rw [q] at hy; cases hy
    | some d =>
      rw [q] at hy
      cases hy
      obtain ⟨_, _, _, _, g4⟩ := eF i d q
      exact g4
/-- items of a list, each by what is known of it -/
theorem list_of {A B : Type} {f : A → B} {Po : Nat → A → Prop} : ∀ {ys : List B}, (∀ i y, ys[i]? = some y → ∃ a, y = f a ∧ Po i a) → ∃ as : List A, ys = as.map f ∧ ∀ i a, as[i]? = some a → Po i a
  | [], _ => ⟨[], rfl, by simp⟩
  | y :: ys, h => by
    obtain ⟨a, rfl, pa⟩ := h 0 y rfl
    obtain ⟨as, rfl, ps⟩ := list_of (Po := fun i => Po (i + 1)) (ys := ys) fun i z hz => h (i + 1) z (by simpa using hz)
    exact ⟨a :: as, rfl, fun i b hb => by
      cases i with
      | zero => simp at hb; subst hb; exact pa
      | succ i => exact ps i b (by simpa using hb)⟩
/-- of a number's item -/
def natP (p : Nat → Bool) : D → Bool
  | .int k => p k.toNat
  | _ => false
def natF (f : Nat → D) : D → D
  | .int k => f k.toNat
  | d => d
@[simp] theorem natP_int {p : Nat → Bool} {x : Nat} : natP p (.int (x : Nat)) = p x := rfl
@[simp] theorem natF_int {f : Nat → D} {x : Nat} : natF f (.int (x : Nat)) = f x := rfl
@[simp] theorem natP_nD {p : Nat → Bool} {x : Nat} : natP p (nD x) = p x := rfl
@[simp] theorem natF_nD {f : Nat → D} {x : Nat} : natF f (nD x) = f x := rfl
theorem natP_filter (ss : List Nat) (p : Nat → Bool) : (ss.map nD).filter (natP p) = (ss.filter p).map nD := by
  rw [List.filter_map]
  rfl
theorem natF_map (ss : List Nat) (f : Nat → D) : (ss.map nD).map (natF f) = ss.map f := by
  rw [List.map_map]
  rfl
/-- of a sign's item -/
def sgP (p : Nat → Bool) : D → Bool
  | .str [k] => p k
  | _ => false
def sgF (f : Nat → D) : D → D
  | .str [k] => f k
  | d => d
@[simp] theorem sgP_str {p : Nat → Bool} {x : Nat} : sgP p (.str [x]) = p x := rfl
@[simp] theorem sgF_str {f : Nat → D} {x : Nat} : sgF f (.str [x]) = f x := rfl
theorem sgP_filter (ss : List Nat) (p : Nat → Bool) : (sgD ss).filter (sgP p) = sgD (ss.filter p) := by
  unfold sgD
  rw [List.filter_map]
  rfl
theorem sgF_map (ss : List Nat) (f : Nat → D) : (sgD ss).map (sgF f) = ss.map f := by
  unfold sgD
  rw [List.map_map]
  rfl
theorem intsFrom_nD (n : Nat) : intsFrom 0 n = (List.range n).map nD := by simp [intsFrom, nD]
end NR

set_option Elab.async false
set_option linter.all false
set_option maxRecDepth 100000
set_option maxHeartbeats 4000000
namespace NR
open PySem PySem.Spec PyProof.Rows L2
/-! ### the draws: a source's cell -/
def PC (cs : List Int) (i l n m : Int) : Cell := .lst [.fl (cs.map D.int), .int i, .int l, .int n, .int m]
/-- b draws can still be made -/
def Pn (b : Nat) (c : Cell) : Prop := ∃ (cs : List Int) (i l n m : Int), c = PC cs i l n m ∧ (∀ x ∈ cs, 0 ≤ x) ∧ cs.length ≤ 63 ∧ 0 ≤ i ∧ 0 ≤ l ∧ 0 ≤ n ∧ n + b ≤ 1000000000000 ∧ 0 ≤ m ∧ m < 2147483647
theorem Pn.mono {b b' : Nat} {c : Cell} (h : Pn b c) (l : b' ≤ b) : Pn b' c := by
  obtain ⟨cs, i, l, n, m, h1, h2, h3, h4, h5, h6, h7, h8⟩ := h
  exact ⟨cs, i, l, n, m, h1, h2, h3, h4, h5, h6, by omega, h8⟩
theorem Pn.lo {b : Nat} {c : Cell} (h : Pn b c) (k : Nat) : Cell.lo k c = true := by
  obtain ⟨cs, i, l, n, m, rfl, _⟩ := h
  simp [PC]
theorem Pn_lo : ∀ (b : Nat) (c : Cell) (k : Nat), Pn b c → Cell.lo k c = true := fun _ _ k h => h.lo k
theorem draw_call {b : Nat} {z c : Cell} {g : IH} {m : Int} (h : Pn (b + 1) c) (h1 : 1 ≤ m) (h2 : m ≤ 1000000) :
    ∃ (t : Nat) (c' : Cell), callC 2 m__law_draw [.ref 1, .int m] (z :: c :: g) = .ok (.int (t : Nat)) (z :: c' :: g) ∧ (t : Int) < m ∧ Pn b c' := by
  obtain ⟨cs, i, l, n, x, rfl, cs0, cs1, i0, l0, n0, n1, x0, x1⟩ := h
  have hm1 : (0 : Int) < m := by omega
  have hm2 : m < 18446744073709551616 := by omega
  -- the state behind the first part
  have first : ∃ (i' l' x' : Int), 0 ≤ i' ∧ 0 ≤ l' ∧ 0 ≤ x' ∧ x' < 2147483647 ∧ ∃ s2 : Option D, ∀ k : MS, RS.then (msIf (mAnd (mTb (mOp (dEq false) (mOp dIx (mVar 0) (mC (.int 2))) (mC (.int 0)))) (mTb (mOp dLt (mOp dIx (mVar 0) (mC (.int 1))) (mB bLen (mCons (mOp dIx (mVar 0) (mC (.int 0))) (mNil)))))) (msCons (msSet 2 (mOp dIx (mOp dIx (mVar 0) (mC (.int 0))) (mOp dIx (mVar 0) (mC (.int 1)))))
    (msCons (msAugI dIAdd (mVar 0) (mC (.int 1)) (mC (.int 1)))
    (msIf (mTb (mOp dGe (mVar 2) (mOp dPow (mC (.int 10)) (mC (.int 18))))) (msSetI (mVar 0) (mC (.int 2)) (mVar 2)) (msSetI (mVar 0) (mC (.int 4)) (mOp dMod (mOp dAdd (mOp dMul (mOp dIx (mVar 0) (mC (.int 4))) (mC (.int 31))) (mVar 2)) (mC (.int 2147483647))))))) (msNil) [some (.ref 1), some (.int m), none, none] (z :: PC cs i l (n + 1) x :: g)) k = k [some (.ref 1), some (.int m), s2, none] (z :: PC cs i' l' (n + 1) x' :: g) := by
    have g0 : ∀ a b c d : Int, dIx (.ref 1) (.int 0) (z :: PC cs a b c d :: g) = .ok (.fl (cs.map D.int)) (z :: PC cs a b c d :: g) := fun a b c d => dIx_ref (n := 1) rfl (by omega) rfl
    have g1 : ∀ a b c d : Int, dIx (.ref 1) (.int 1) (z :: PC cs a b c d :: g) = .ok (.int a) (z :: PC cs a b c d :: g) := fun a b c d => dIx_ref (n := 1) rfl (by omega) rfl
    have g2 : ∀ a b c d : Int, dIx (.ref 1) (.int 2) (z :: PC cs a b c d :: g) = .ok (.int b) (z :: PC cs a b c d :: g) := fun a b c d => dIx_ref (n := 1) rfl (by omega) rfl
    have g4 : ∀ a b c d : Int, dIx (.ref 1) (.int 4) (z :: PC cs a b c d :: g) = .ok (.int d) (z :: PC cs a b c d :: g) := fun a b c d => dIx_ref (n := 1) rfl (by omega) rfl
    have k1 : ∀ a b c d : Int, getL (.ref 1) (.int 1) (z :: PC cs a b c d :: g) = some (.int a) := fun a b c d => getL_ref (n := 1) rfl (by omega) rfl
    have q1 : ∀ a b c d v : Int, putD (.ref 1) (.int 1) (.int v) (z :: PC cs a b c d :: g) = some (z :: PC cs v b c d :: g) := fun a b c d v => putD_ref (n := 1) (xs := [.fl (cs.map D.int), .int a, .int b, .int c, .int d]) rfl (by omega) (by simp)
    have q2 : ∀ a b c d v : Int, putD (.ref 1) (.int 2) (.int v) (z :: PC cs a b c d :: g) = some (z :: PC cs a v c d :: g) := fun a b c d v => putD_ref (n := 1) (xs := [.fl (cs.map D.int), .int a, .int b, .int c, .int d]) rfl (by omega) (by simp)
    have q4 : ∀ a b c d v : Int, putD (.ref 1) (.int 4) (.int v) (z :: PC cs a b c d :: g) = some (z :: PC cs a b c v :: g) := fun a b c d v => putD_ref (n := 1) (xs := [.fl (cs.map D.int), .int a, .int b, .int c, .int d]) rfl (by omega) (by simp)
    by_cases c1 : l = 0
    · by_cases c2 : i < cs.length
      · have hi : i.toNat < cs.length := by omega
        have hx : (cs.map D.int)[i.toNat]? = some (.int cs[i.toNat]) := by rw [List.getElem?_map, List.getElem?_eq_getElem hi]; rfl
        have y0 : 0 ≤ cs[i.toNat] := cs0 _ (List.getElem_mem hi)
        have gx : ∀ h : IH, dIx (.fl (cs.map D.int)) (.int i) h = .ok (.int cs[i.toNat]) h := fun h => dIx_seq rfl i0 hx
        generalize cs[i.toNat] = y at gx y0
        by_cases c3 : 1000000000000000000 ≤ y
        · exact ⟨i + 1, y, x, by omega, by omega, x0, x1, some (.int y), fun k => by simp [g0, g1, g2, g4, k1, q1, q2, q4, c1, c2, c3, gx, cPow]⟩
        · exact ⟨i + 1, 0, (x * 31 + y) % 2147483647, by omega, by omega, Int.emod_nonneg _ (by omega), Int.emod_lt_of_pos _ (by omega), some (.int y), fun k => by simp [g0, g1, g2, g4, k1, q1, q2, q4, c1, c2, c3, gx, cPow, cMul, cMod]⟩
      · exact ⟨i, l, x, i0, l0, x0, x1, none, fun k => by simp [g0, g1, g2, c1, c2]⟩
    · exact ⟨i, l, x, i0, l0, x0, x1, none, fun k => by simp [g0, g1, g2, c1]⟩
  obtain ⟨i', l', x', i0', l0', x0', x1', s2, first⟩ := first
  have g2 : ∀ a b c d : Int, dIx (.ref 1) (.int 2) (z :: PC cs a b c d :: g) = .ok (.int b) (z :: PC cs a b c d :: g) := fun a b c d => dIx_ref (n := 1) rfl (by omega) rfl
  have g3 : ∀ a b c d : Int, dIx (.ref 1) (.int 3) (z :: PC cs a b c d :: g) = .ok (.int c) (z :: PC cs a b c d :: g) := fun a b c d => dIx_ref (n := 1) rfl (by omega) rfl
  have g4 : ∀ a b c d : Int, dIx (.ref 1) (.int 4) (z :: PC cs a b c d :: g) = .ok (.int d) (z :: PC cs a b c d :: g) := fun a b c d => dIx_ref (n := 1) rfl (by omega) rfl
  have k2 : ∀ a b c d : Int, getL (.ref 1) (.int 2) (z :: PC cs a b c d :: g) = some (.int b) := fun a b c d => getL_ref (n := 1) rfl (by omega) rfl
  have k3 : ∀ a b c d : Int, getL (.ref 1) (.int 3) (z :: PC cs a b c d :: g) = some (.int c) := fun a b c d => getL_ref (n := 1) rfl (by omega) rfl
  have q2 : ∀ a b c d v : Int, putD (.ref 1) (.int 2) (.int v) (z :: PC cs a b c d :: g) = some (z :: PC cs a v c d :: g) := fun a b c d v => putD_ref (n := 1) (xs := [.fl (cs.map D.int), .int a, .int b, .int c, .int d]) rfl (by omega) (by simp)
  have q3 : ∀ a b c d v : Int, putD (.ref 1) (.int 3) (.int v) (z :: PC cs a b c d :: g) = some (z :: PC cs a b v d :: g) := fun a b c d v => putD_ref (n := 1) (xs := [.fl (cs.map D.int), .int a, .int b, .int c, .int d]) rfl (by omega) (by simp)
  have fin : ∀ (t l2 : Int), m__law_draw [.ref 1, .int m] (z :: PC cs i l n x :: g) = .ok (.int t) (z :: PC cs i' l2 (n + 1) x' :: g) → 0 ≤ t → t < m → 0 ≤ l2 → _ := fun t l2 e t0 t1 l20 =>
    (⟨t.toNat, PC cs i' l2 (n + 1) x', callC_len rfl (by rw [e, Int.toNat_of_nonneg t0]) (by simp), by omega, cs, i', l2, n + 1, x', rfl, cs0, cs1, i0', l20, by omega, by omega, x0', x1'⟩ : ∃ (t : Nat) (c' : Cell), callC 2 m__law_draw [.ref 1, .int m] (z :: PC cs i l n x :: g) = .ok (.int (t : Nat)) (z :: c' :: g) ∧ (t : Int) < m ∧ Pn b c')
  by_cases hl : 0 < l'
  · refine fin (l' % m) (l' / m) ?_ (Int.emod_nonneg _ (by omega)) (Int.emod_lt_of_pos _ hm1) (Int.ediv_nonneg l0' (by omega))
    unfold m__law_draw
    rw [ap_fnM]
    show RS.fin (RS.then (msAugI _ _ _ _ [some (.ref 1), some (.int m), none, none] _) _) = _
    simp only [ap_msAugI, ap_mVar, ap_mC, get_zero, bindS_ok, k3, dIAdd_int, q3, then_nx]
    rw [ap_msCons, first]
    simp [g2, k2, q2, hl, cMod, cDiv, hm1, hm2, dI]
  · have w1 : (x' + 1 + (n + 1) * 7919).natAbs < 18446744073709551616 := by omega
    generalize hN : (x' + 1 + (n + 1) * 7919) ^ 3 % 2147483647 = N
    have n0' : 0 ≤ N := by rw [← hN]; exact Int.emod_nonneg _ (by omega)
    have n1' : N < 2147483647 := by rw [← hN]; exact Int.emod_lt_of_pos _ (by omega)
    have w2 : (N * 48271 + (n + 1)).natAbs < 18446744073709551616 := by omega
    refine fin ((N * 48271 + (n + 1)) ^ 2 % 2147483629 / 64 % m) l' ?_ (Int.emod_nonneg _ (by omega)) (Int.emod_lt_of_pos _ hm1) l0'
    unfold m__law_draw
    rw [ap_fnM]
    show RS.fin (RS.then (msAugI _ _ _ _ [some (.ref 1), some (.int m), none, none] _) _) = _
    simp only [ap_msAugI, ap_mVar, ap_mC, get_zero, bindS_ok, k3, dIAdd_int, q3, then_nx]
    rw [ap_msCons, first]
    simp [g2, g3, g4, hl, cMod, cDiv, cMul, cPow, hm1, hm2, w1, w2, hN]
theorem source_eq (ns : List Int) (hl : ns.length ≤ 63) : ∃ c, callC 1 m__law_source [.ref 0] [.frz (ns.map D.int)] = .ok (.ref 1) [.frz (ns.map D.int), c] ∧ Pn 999999999999 c := by
  have e0 : cutD (ns.map D.int) none (some 63) = ns.map D.int := by
    rw [cutD_to (by omega), List.take_of_length_le (by simp; omega)]
  let F : D → D := fun d => match d with
    | .int x => .int (2 * (if x < 0 then -x else x) + (if x < 0 then 1 else 0))
    | d => d
  have eF : (ns.map D.int).map F = (ns.map fun x => 2 * (if x < 0 then -x else x) + (if x < 0 then 1 else 0)).map D.int := by
    rw [List.map_map, List.map_map]
    rfl
  have it : (iSeq (mFz (mSlice (mVar 0) (moNone) (moSome (mC (.int 63)))))) [some (.ref 0), none, none] [.frz (ns.map D.int)] = .ok (.st (ns.map D.int)) [.frz (ns.map D.int)] := by
    rw [ap_iSeq]
    simp only [ap_mFz_slice, ap_mVar, get_zero, bind_ok, ap_moNone, ap_moSome, ap_mC]
    have : sliceD (.ref 0) none (some 63) [.frz (ns.map D.int)] = newL [.frz (ns.map D.int)] (ns.map D.int) := by
      unfold sliceD
      simp [lstOf, e0, newL]
    rw [this, fz_newL, fzD_same (by simp)]
    rfl
  have comp := lcF_map (it := iSeq (mFz (mSlice (mVar 0) (moNone) (moSome (mC (.int 63)))))) (gg := gSet 2) (ws := [2]) (m := e__law_source_1) (ds := ns.map D.int) F it (by simp; omega) (fun d hd => by
      obtain ⟨x, _, rfl⟩ := List.mem_map.mp hd
      rfl) (fun d hd => by
      obtain ⟨x, _, rfl⟩ := List.mem_map.mp hd
      refine ⟨_, rfl, fun h' => ?_⟩
      unfold e__law_source_1
      simp [wipeE, cMul, F])
  rw [eF] at comp
  generalize hcs : (ns.map fun x => 2 * (if x < 0 then -x else x) + (if x < 0 then 1 else 0)) = cs at comp
  have cs0 : ∀ x ∈ cs, 0 ≤ x := by
    intro x hx
    rw [← hcs] at hx
    obtain ⟨y, _, rfl⟩ := List.mem_map.mp hx
    split <;> omega
  have cl : cs.length ≤ 63 := by rw [← hcs]; simpa using hl
  refine ⟨PC cs 0 0 0 (cs.sum % 2147483647), callC_new rfl ?_ (by simp), cs, 0, 0, 0, _, rfl, cs0, cl, by omega, by omega, by omega, by omega, Int.emod_nonneg _ (by omega), Int.emod_lt_of_pos _ (by omega)⟩
  unfold m__law_source
  rw [ap_fnM]
  simp [comp, newL_bindS, cMod, PC]
end NR

set_option Elab.async false
set_option linter.all false
set_option maxRecDepth 100000
set_option maxHeartbeats 4000000
namespace NR
open PySem PySem.Spec PyProof.Rows L2
def allSigns : List Nat := [32, 33, 34, 35, 36, 38, 39, 40, 41, 42, 43, 44, 45, 46, 47, 48, 49, 50, 51, 52, 53, 54, 55, 56, 57, 58, 59, 60, 61, 62, 63, 64, 65, 66, 67, 68, 69, 70, 71, 72, 73, 74, 75, 76, 77, 78, 79, 80, 81, 82, 83, 84, 85, 86, 87, 88, 89, 90, 91, 92, 93, 94, 95, 96, 97, 98, 99, 100, 101, 102, 103, 104, 105, 106, 107, 108, 109, 110, 111, 112, 113, 114, 115, 116, 117, 118, 119, 120, 121, 122, 123, 124, 125, 126, 10]
theorem allSigns_nodup : allSigns.Nodup := by decide
theorem allSigns_len : allSigns.length = 95 := by decide
theorem signs_call (h : IH) : callC 0 m__law_signs [] h = .ok (.str allSigns) h := callC_same rfl (by unfold m__law_signs; simp [dAdd_str_if, allSigns])
/-- a tongue -/
structure Tgn (t : List Nat) : Prop where
  l1 : 1 ≤ t.length
  l2 : t.length ≤ 6
  nd : t.Nodup
  sub : ∀ c ∈ t, c ∈ allSigns
theorem erase_cut (l : List Nat) (i : Nat) : l.take i ++ l.drop (i + 1) = l.eraseIdx i := (List.eraseIdx_eq_take_drop_succ l i).symm
theorem nodup_erase {l : List Nat} (h : l.Nodup) (i : Nat) : (l.eraseIdx i).Nodup := h.sublist (List.eraseIdx_sublist l i)
theorem not_mem_erase {l : List Nat} (h : l.Nodup) {i c : Nat} (e : l[i]? = some c) : c ∉ l.eraseIdx i := by
  intro hm
  rw [List.mem_eraseIdx_iff_getElem?] at hm
  obtain ⟨j, hj, ej⟩ := hm
  obtain ⟨h1, e1⟩ := List.getElem?_eq_some_iff.mp e
  obtain ⟨h2, e2⟩ := List.getElem?_eq_some_iff.mp ej
  have hp := List.pairwise_iff_getElem.mp h
  rcases Nat.lt_or_gt_of_ne hj with l1 | l1
  · exact hp j i h2 h1 l1 (e2.trans e1.symm)
  · exact hp i j h1 h2 l1 (e1.trans e2.symm)
end NR

set_option Elab.async false
set_option linter.all false
set_option maxRecDepth 100000
set_option maxHeartbeats 4000000
namespace NR
open PySem PySem.Spec PyProof.Rows L2
theorem tongue_call {b : Nat} {z c : Cell} {g : IH} (hp : Pn (b + 7) c) :
    ∃ t c', callC 1 m__law_tongue [.ref 1] (z :: c :: g) = .ok (.str t) (z :: c' :: g) ∧ Tgn t ∧ Pn b c' := by
  obtain ⟨t, c1, e1, t1, p1⟩ := draw_call (b := b + 6) (z := z) (g := g) (m := 6) hp (by omega) (by omega)
  have main : ∃ f c' x y rs, forM (.st (intsFrom 0 (1 + (t : Int)).toNat)) (gSet 3) b__law_tongue_1 ((Src.st (intsFrom 0 (1 + (t : Int)).toNat)).many (z :: c1 :: g) + 1) 0 [some (.ref 1), some (.str allSigns), some (.str []), none, none] (z :: c1 :: g) =
      .nx [some (.ref 1), some (.str rs), some (.str f), x, y] (z :: c' :: g) ∧ Tgn f ∧ Pn b c' := by
    have lk : (intsFrom 0 (1 + (t : Int)).toNat).length = t + 1 := by simp [intsFrom]; omega
    refine for_inv (P := fun i env h => ∃ (f rs : List Nat) (c' : Cell) (x y : Option D), env = [some (.ref 1), some (.str rs), some (.str f), x, y] ∧ h = z :: c' :: g ∧ f.length = i ∧ rs.length + i = 95 ∧ f.Nodup ∧ rs.Nodup ∧ (∀ k ∈ f, k ∉ rs) ∧ (∀ k ∈ f, k ∈ allSigns) ∧ (∀ k ∈ rs, k ∈ allSigns) ∧ i ≤ 6 ∧ Pn (b + (6 - i)) c')
      (Rs := fun r => ∃ f c' x y rs, r = .nx [some (.ref 1), some (.str rs), some (.str f), x, y] (z :: c' :: g) ∧ Tgn f ∧ Pn b c')
      ⟨[], allSigns, c1, none, none, rfl, rfl, rfl, by decide, by simp, allSigns_nodup, by simp, by simp, fun c hc => hc, by omega, p1⟩ ?_ ?_
    · rintro i d env h hd ⟨f, rs, c', x, y, rfl, rfl, lf, lr, nf, nr, dj, s1, s2, i6, p⟩
      have hi : i < t + 1 := by
        have := (List.getElem?_eq_some_iff.mp hd).1
        omega
      refine ⟨_, rfl, ?_⟩
      obtain ⟨u, c2, e2, u1, p2⟩ := draw_call (b := b + (6 - (i + 1))) (z := z) (g := g) (m := rs.length) (p.mono (by omega)) (by omega) (by omega)
      have hu : u < rs.length := by omega
      have hc : rs[u]? = some rs[u] := List.getElem?_eq_getElem hu
      generalize rs[u] = k at hc
      have hkm : k ∈ rs := List.mem_of_getElem? hc
      have b1 : ∀ h, bLen [.str rs] h = .ok (.int (rs.length : Nat)) h := fun h => bLen_str (by omega)
      have b2 : ∀ h, dIx (.str rs) (.int (u : Nat)) h = .ok (.str [k]) h := fun h => dIx_str (by omega) (by simpa using hc) (by omega)
      have b3 : ∀ h, dIAdd (.str f) (.str [k]) h = .ok (.str (f ++ [k])) h := fun h => dIAdd_str (by simp; omega)
      have b4 : ∀ h, sliceD (.str rs) none (some (u : Nat)) h = .ok (.str (rs.take u)) h := fun h => by rw [sliceD_str (by omega), cutN_to (by omega)]; simp
      have b5 : ∀ h, sliceD (.str rs) (some ((u : Nat) + 1)) none h = .ok (.str (rs.drop (u + 1))) h := fun h => by rw [sliceD_str (by omega), cutN_from (by omega)]; congr 2
      have b6 : ∀ h, dAdd (.str (rs.take u)) (.str (rs.drop (u + 1))) h = .ok (.str (rs.eraseIdx u)) h := fun h => by
        rw [dAdd_str, erase_cut]
        rw [List.length_take, List.length_drop]
        omega
      unfold b__law_tongue_1
      simp only [ap_msCons, ap_msSet, ap_msAug, ap_mCall, ap_mCons, ap_mNil, ap_mVar, ap_mB, ap_mOp, ap_mFz_slice, ap_mFz_op, ap_mSlice, ap_moNone, ap_moSome, ap_mC, bind_ok, bindS_ok, then_nx, List.set_cons_zero, List.set_cons_succ, List.getElem?_cons_zero, List.getElem?_cons_succ, b1, e2, b2, b3, b4, b5, b6, dAdd_int, fz_str, Nx_nx]
      refine ⟨f ++ [k], rs.eraseIdx u, c2, _, _, rfl, rfl, by simp; omega, ?_, ?_, nodup_erase nr _, ?_, ?_, fun j hj => s2 j ((List.eraseIdx_sublist _ _).subset hj), by omega, p2⟩
      · rw [List.length_eraseIdx, if_pos (by omega)]
        omega
      · rw [List.nodup_append]
        exact ⟨nf, by simp, fun a ha j hj => by rw [List.mem_singleton] at hj; subst hj; exact fun z => dj a ha (z ▸ hkm)⟩
      · intro a ha
        rcases List.mem_append.mp ha with ha | ha
        · exact fun z => dj a ha ((List.eraseIdx_sublist _ _).subset z)
        · rw [List.mem_singleton] at ha
          subst ha
          exact not_mem_erase nr hc
      · intro a ha
        rcases List.mem_append.mp ha with ha | ha
        · exact s1 a ha
        · rw [List.mem_singleton] at ha
          subst ha
          exact s2 a hkm
    · rintro env h ⟨f, rs, c', x, y, rfl, rfl, lf, lr, nf, nr, dj, s1, s2, i6, p⟩
      rw [lk] at lf
      exact ⟨f, c', x, y, rs, rfl, ⟨by omega, by omega, nf, s1⟩, p.mono (by omega)⟩
  obtain ⟨f, c', x, y, rs, ef, tg, p'⟩ := main
  refine ⟨f, c', callC_pen0 rfl ?_, tg, p'⟩
  unfold m__law_tongue
  simp [signs_call, e1, show -10000000 ≤ 1 + (t : Int) ∧ 1 + (t : Int) ≤ 10000000 by omega, ef]
end NR

set_option Elab.async false
set_option linter.all false
set_option maxRecDepth 100000
set_option maxHeartbeats 4000000
namespace NR
open PySem PySem.Spec PyProof.Rows L2
def gD (r : List Nat) : D := .fl (r.map nD)
@[simp] theorem lo_gD {n : Nat} {r : List Nat} : D.lo n (gD r) = true := by simp [gD]
theorem intsFrom_get {lo : Int} {n i : Nat} {d : D} (h : (intsFrom lo n)[i]? = some d) : i < n ∧ d = .int (lo + (i : Nat)) := by
  rw [ints_get] at h
  split at h
  · rename_i hi
    cases h
    exact ⟨hi, rfl⟩
  · cases h
@[simp] theorem intsFrom_len {lo : Int} {n : Nat} : (intsFrom lo n).length = n := by simp [intsFrom]
/-- the slots of _law_rooms -/
def rE (tg : List Nat) (many : Nat) (k : D) (x : Option D) (man : Option D) (k2 x7 x8 x9 : Option D) : EV := [some (.ref 1), some (.str tg), some (.int (many : Nat)), some k, x, man, k2, x7, x8, x9]
theorem rooms_call {b : Nat} {z c : Cell} {g : IH} {tg : List Nat} {many : Nat} (ht : tg.length ≤ 6) (h1 : 1 ≤ many) (h2 : many ≤ 32) (hp : Pn (b + 300) c) :
    ∃ (goes : List (List Nat)) (kinds : List Int) (c' : Cell), callC 3 m__law_rooms [.ref 1, .str tg, .int (many : Nat)] (z :: c :: g) = .ok (.tup [.fl (goes.map gD), .fl (kinds.map D.int)]) (z :: c' :: g) ∧
      goes.length = many ∧ (∀ r ∈ goes, r.length = tg.length ∧ ∀ x ∈ r, x < many) ∧ kinds.length = many ∧ kinds[0]? = some (-1) ∧ (∀ k ∈ kinds, -1 ≤ k ∧ k ≤ 5) ∧ Pn b c' := by
  -- the kinds
  obtain ⟨_, _, e1, ks, c1, x4, rfl, rfl, kl, k0, kk, p1⟩ := for_nx (s := b__law_rooms_1) (gg := gSet 4) (ds := intsFrom 1 (many - 1)) (env := rE tg many (.ref (g.length + 2)) none none none none none none) (h := z :: c :: (g ++ [Cell.lst [.int (-1)]]))
    (fun i env h => ∃ (ks : List Int) (c' : Cell) (x : Option D), env = rE tg many (.ref (g.length + 2)) x none none none none none ∧ h = z :: c' :: (g ++ [Cell.lst (ks.map D.int)]) ∧ ks.length = i + 1 ∧ ks[0]? = some (-1) ∧ (∀ k ∈ ks, -1 ≤ k ∧ k ≤ 5) ∧ Pn (b + 300 - 2 * i) c')
    ⟨[-1], c, none, rfl, rfl, rfl, rfl, by simp, hp⟩ (by
      rintro i d env h hd ⟨ks, c', x, rfl, rfl, l1, k0, kk, p⟩
      obtain ⟨hi, rfl⟩ := intsFrom_get hd
      obtain ⟨t, c1, e1, t1, p1⟩ := draw_call (b := b + 299 - 2 * i) (z := z) (g := g ++ [Cell.lst (ks.map D.int)]) (m := 5) (p.mono (by omega)) (by omega) (by omega)
      have ty : ∀ c, tyD "list" (z :: c :: (g ++ [Cell.lst (ks.map D.int)])) (.ref (g.length + 2)) = true := fun c => tyD_ref (xs := ks.map D.int) (by simp)
      have ap : ∀ c (y : Int), fAppend (.ref (g.length + 2)) [.int y] (z :: c :: (g ++ [Cell.lst (ks.map D.int)])) = .ok .non (z :: c :: (g ++ [Cell.lst ((ks ++ [y]).map D.int)])) := fun c y => by
        rw [append_at (xs := ks.map D.int) (by simp) (by simp; omega)]
        simp
      have k0' : ∀ y : Int, (ks ++ [y])[0]? = some (-1) := fun y => by rw [List.getElem?_append_left (by omega)]; exact k0
      by_cases ct : (t : Int) < 2
      · obtain ⟨u, c2, e2, u1, p2⟩ := draw_call (b := b + 298 - 2 * i) (z := z) (g := g ++ [Cell.lst (ks.map D.int)]) (m := 6) (p1.mono (by omega)) (by omega) (by omega)
        refine ⟨_, rE tg many (.ref (g.length + 2)) (some (.int (1 + (i : Nat)))) none none none none none, _, rfl, by unfold b__law_rooms_1 rE; simp [gSet, ty, e1, e2, ct, ap], ks ++ [(u : Int)], c2, _, rfl, rfl, by simp [l1], k0' _, ?_, p2.mono (by omega)⟩
        intro k hk
        rcases List.mem_append.mp hk with hk | hk
        · exact kk k hk
        · simp at hk
          omega
      · refine ⟨_, rE tg many (.ref (g.length + 2)) (some (.int (1 + (i : Nat)))) none none none none none, _, rfl, by unfold b__law_rooms_1 rE; simp [gSet, ty, e1, ct, ap], ks ++ [-1], c1, _, rfl, rfl, by simp [l1], k0' _, ?_, p1.mono (by omega)⟩
        intro k hk
        rcases List.mem_append.mp hk with hk | hk
        · exact kk k hk
        · simp at hk
          omega)
  rw [intsFrom_len] at kl p1
  obtain ⟨man, c2, e2, m2, p2⟩ := draw_call (b := b + 200) (z := z) (g := g ++ [Cell.lst (ks.map D.int)]) (m := 3) (p1.mono (by omega)) (by omega) (by omega)
  -- the goes
  obtain ⟨_, _, e6, goes, c6, x7, x8, x9, x, rfl, rfl, gl, gg, p6⟩ := for_nx (s := b__law_rooms_5) (gg := gSet 4) (ds := intsFrom 0 many) (env := rE tg many (.fl (ks.map D.int)) x4 (some (.int (man : Nat))) (some (.ref (g.length + 3))) none none none) (h := z :: c2 :: (g ++ [Cell.frz (ks.map D.int), Cell.lst []]))
    (fun i env h => ∃ (goes : List (List Nat)) (c' : Cell) (x7 x8 x9 x : Option D), env = rE tg many (.fl (ks.map D.int)) x (some (.int (man : Nat))) (some (.ref (g.length + 3))) x7 x8 x9 ∧ h = z :: c' :: (g ++ [Cell.frz (ks.map D.int), Cell.lst (goes.map gD)]) ∧ goes.length = i ∧ (∀ r ∈ goes, r.length = tg.length ∧ ∀ x ∈ r, x < many) ∧ Pn (b + 200 - 6 * i) c')
    ⟨[], c2, none, none, none, x4, rfl, rfl, rfl, by simp, p2⟩ (by
      rintro i d env h hd ⟨goes, c', x7, x8, x9, x, rfl, rfl, l1, gg, p⟩
      obtain ⟨hi, rfl⟩ := intsFrom_get hd
      rw [Int.zero_add]
      generalize hG : g ++ [Cell.frz (ks.map D.int), Cell.lst (goes.map gD)] = G at *
      obtain ⟨ys, c3, e3, yl, yp, p3⟩ := lcF_pen (Pn := Pn) (b := b + 194 - 6 * i) (K := 1) (z := z) (c0 := c') (g := G) (ds := sgD tg) (env := rE tg many (.fl (ks.map D.int)) (some (.int (i : Nat))) (some (.int (man : Nat))) (some (.ref (g.length + 3))) x7 x8 x9) (it := iSeq (mVar 1)) (gg := gSet 8) (ws := [8]) (m := e__law_rooms_2) Pn_lo
        (fun _ y => ∃ x, y = nD x ∧ x < many) (iSeq_str rfl (by omega)) (by simp [sgD]; omega) (p.mono (by simp [sgD]; omega)) (by rintro _ y k ⟨x, rfl, _⟩; rfl) (fun j d _ => ⟨_, rfl, fun b c g hb => by
          obtain ⟨t, c1, e1, t1, q1⟩ := draw_call (b := b) (z := z) (g := g) (m := (many : Nat)) hb (by omega) (by omega)
          refine ⟨_, c1, ?_, q1, t, rfl, by omega⟩
          unfold e__law_rooms_2 rE
          simp [wipeE, gSet, e1, nD]⟩)
      obtain ⟨row, rfl, rb⟩ := nats_of (m := many) fun y hy => by
        obtain ⟨j, hj⟩ := List.mem_iff_getElem?.mp hy
        exact yp j y hj
      have rl : row.length = tg.length := by simpa [sgD] using yl
      have gk : ∀ (w : List Cell) (x : Nat), x < many → ∃ k, ks.getD x 0 = k ∧ dIx (.fl (ks.map D.int)) (.int (x : Nat)) (z :: c3 :: (G ++ w)) = .ok (.int k) (z :: c3 :: (G ++ w)) := fun w x hx => by
        refine ⟨ks[x]'(by omega), by rw [List.getD_eq_getElem?_getD, List.getElem?_eq_getElem (by omega)]; rfl, dIx_nat (xs := ks.map D.int) rfl ?_⟩
        rw [List.getElem?_map, List.getElem?_eq_getElem (by omega)]
        rfl
      have e4 : mFz (mLc (iSeq (mVar 7)) (gSet 9) mYes e__law_rooms_3 [9]) (rE tg many (.fl (ks.map D.int)) (some (.int (i : Nat))) (some (.int (man : Nat))) (some (.ref (g.length + 3))) (some (.fl (row.map nD))) x8 x9) (z :: c3 :: G) =
          .ok (.fl ((row.map fun x => if ks.getD x 0 < 0 ∧ x ≤ i then many - 1 else x).map nD)) (z :: c3 :: G) := by
        rw [lcF_map (ds := row.map nD) (fun d => match d with | .int v => nD (if ks.getD v.toNat 0 < 0 ∧ v.toNat ≤ i then many - 1 else v.toNat) | d => d) rfl (by simp; omega) (fun d hd => by
          obtain ⟨x, _, rfl⟩ := List.mem_map.mp hd
          rfl) (fun d hd => by
          obtain ⟨x, hx, rfl⟩ := List.mem_map.mp hd
          refine ⟨_, rfl, fun w => ?_⟩
          obtain ⟨k, hk2, gk'⟩ := gk [w] x (rb x hx)
          unfold e__law_rooms_3 rE
          show _ = R.ok (nD (if ks.getD x 0 < 0 ∧ x ≤ i then many - 1 else x)) _
          rw [hk2]
          by_cases q1 : k < 0
          · by_cases q2 : x ≤ i
            · simp [wipeE, gSet, nD, gk', q1, q2]; omega
            · simp [wipeE, gSet, nD, gk', q1, q2]
          · simp [wipeE, gSet, nD, gk', q1])]
        rw [List.map_map, List.map_map]
        congr 1
      have e5 : ∀ rw' : List Nat, rw'.length ≤ 10 → mFz (mLc (iSeq (mVar 7)) (gSet 9) mYes e__law_rooms_4 [9]) (rE tg many (.fl (ks.map D.int)) (some (.int (i : Nat))) (some (.int (man : Nat))) (some (.ref (g.length + 3))) (some (.fl (rw'.map nD))) x8 x9) (z :: c3 :: G) =
          .ok (.fl ((rw'.map fun _ => i).map nD)) (z :: c3 :: G) := fun rw' hl => by
        rw [lcF_map (ds := rw'.map nD) (gg := gSet 9) (fun _ => nD i) rfl (by simp; omega) (fun d hd => rfl) (fun d hd => ⟨_, rfl, fun w => by unfold e__law_rooms_4 rE; simp [wipeE, gSet, nD]⟩)]
        simp
      have ty : tyD "list" (z :: c3 :: G) (.ref (g.length + 3)) = true := tyD_ref (xs := goes.map gD) (by subst hG; simp)
      have ap : ∀ r : List Nat, fAppend (.ref (g.length + 3)) [.fl (r.map nD)] (z :: c3 :: G) = .ok .non (z :: c3 :: (g ++ [Cell.frz (ks.map D.int), Cell.lst ((goes ++ [r]).map gD)])) := fun r => by
        subst hG
        rw [append_at (xs := goes.map gD) (by simp) (by simp; omega)]
        simp [gD]
      have mi : ((i : Int) = (many : Int) - 1) = (i = many - 1) := by rw [eq_iff_iff]; omega
      have m0 : ((0 : Int) < (man : Int)) = (0 < man) := by rw [eq_iff_iff]; omega
      -- the row that is put in
      obtain ⟨r, ra, eb⟩ : ∃ r : List Nat, (r.length = tg.length ∧ ∀ x ∈ r, x < many) ∧ b__law_rooms_5 (rE tg many (.fl (ks.map D.int)) (some (.int (i : Nat))) (some (.int (man : Nat))) (some (.ref (g.length + 3))) x7 x8 x9) (z :: c' :: G) =
          .nx (rE tg many (.fl (ks.map D.int)) (some (.int (i : Nat))) (some (.int (man : Nat))) (some (.ref (g.length + 3))) (some (.fl (r.map nD))) x8 x9) (z :: c3 :: (g ++ [Cell.frz (ks.map D.int), Cell.lst ((goes ++ [r]).map gD)])) := by
        unfold rE at e3 e4 e5 ⊢
        unfold b__law_rooms_5
        by_cases q1 : 0 < man
        · have ra : ∀ x ∈ (row.map fun x => if ks.getD x 0 < 0 ∧ x ≤ i then many - 1 else x), x < many := fun y hy => by
            obtain ⟨x, hx, rfl⟩ := List.mem_map.mp hy
            have := rb x hx
            split <;> omega
          have rl2 : (row.map fun x => if ks.getD x 0 < 0 ∧ x ≤ i then many - 1 else x).length = tg.length := by rw [List.length_map, rl]
          generalize (row.map fun x => if ks.getD x 0 < 0 ∧ x ≤ i then many - 1 else x) = r2 at *
          by_cases q2 : ((man : Int) = 1) = True
          · by_cases q3 : i = many - 1
            · refine ⟨r2.map fun _ => i, ⟨by rw [List.length_map, rl2], fun y hy => by obtain ⟨_, _, rfl⟩ := List.mem_map.mp hy; exact hi⟩, ?_⟩
              simp [e3, m0, q1, e4, q2, mi, ← q3, e5 r2 (by omega), ty, ap, -List.map_map]
            · refine ⟨r2, ⟨rl2, ra⟩, ?_⟩
              simp [e3, m0, q1, e4, q2, mi, q3, ty, ap]
          · have q2' : ((man : Int) = 1) = False := by simpa using q2
            refine ⟨r2, ⟨rl2, ra⟩, ?_⟩
            simp [e3, m0, q1, e4, q2', ty, ap]
        · refine ⟨row, ⟨rl, rb⟩, ?_⟩
          simp [e3, m0, q1, show ((man : Int) = 1) = False from eq_false (by omega), ty, ap]
      exact ⟨_, _, _, rfl, eb, goes ++ [r], c3, _, _, _, _, rfl, rfl, by simp [l1], fun q hq => by rcases List.mem_append.mp hq with hq | hq; exact gg q hq; simp at hq; subst hq; exact ra, p3.mono (by omega)⟩)
  rw [intsFrom_len] at gl p6
  refine ⟨goes, ks, c6, callC_pen (g' := [Cell.frz (ks.map D.int), Cell.frz (goes.map gD)]) rfl ?_ (by simp) (fun k _ => p6.lo k), gl, gg, by omega, k0, kk, p6.mono (by omega)⟩
  unfold rE at e1 e6
  unfold m__law_rooms
  have z1 : -10000000 ≤ (many : Int) := by omega
  have z2 : (many : Int) ≤ 10000000 := by omega
  simp [newL_bindS, z1, z2, e1, e2, e6, msFz, Nat.add_assoc]
end NR

set_option Elab.async false
set_option linter.all false
set_option maxRecDepth 100000
set_option maxHeartbeats 4000000
namespace NR
open PySem PySem.Spec PyProof.Rows L2
/-- a table -/
structure Tb where
  sig : List Nat
  goes : List (List Nat)
  kinds : List Int
def gT (r : List Nat) : D := .tup (r.map nD)
@[simp] theorem lo_gT {n : Nat} {r : List Nat} : D.lo n (gT r) = true := by simp [gT]
def Tb.enc (T : Tb) : D := .tup [.str T.sig, .tup (T.goes.map gT), .tup (T.kinds.map D.int)]
@[simp] theorem lo_Tb {n : Nat} {T : Tb} : D.lo n T.enc = true := by simp [Tb.enc]
structure Tb.Ok (T : Tb) : Prop where
  tg : Tgn T.sig
  g1 : 1 ≤ T.goes.length
  g2 : T.goes.length ≤ 32
  row : ∀ r ∈ T.goes, r.length = T.sig.length ∧ ∀ x ∈ r, x < T.goes.length
  kl : T.kinds.length = T.goes.length
  k0 : T.kinds[0]? = some (-1)
  kk : ∀ k ∈ T.kinds, -1 ≤ k ∧ k ≤ 5
/-- some word leads there -/
inductive Led (goes : List (List Nat)) : Nat → Prop
  | zero : Led goes 0
  | step {r s k : Nat} {row : List Nat} (h : Led goes r) (e : goes[r]? = some row) (e2 : row[k]? = some s) : Led goes s
theorem nodup_len : ∀ (N : Nat) (l : List Nat), l.Nodup → (∀ x ∈ l, x < N) → l.length ≤ N
  | 0, [], _, _ => by simp
  | 0, x :: l, _, h => absurd (h x List.mem_cons_self) (Nat.not_lt_zero x)
  | N + 1, l, nd, h => by
    have h1 := nodup_len N (l.erase N) (nd.erase N) fun x hx => by
      have := h x (List.mem_of_mem_erase hx)
      have ne : x ≠ N := fun z => by subst z; exact (nd.not_mem_erase) hx
      omega
    have h2 := List.length_erase (a := N) (l := l)
    split at h2 <;> omega
theorem nat_sort (ms : List Nat) : ∃ ns : List Nat, isrt (ms.map fun (x : Nat) => (x : Int)) = ns.map (fun (x : Nat) => (x : Int)) ∧ ns.Perm ms ∧ ns.Pairwise (· ≤ ·) := by
  have p := isrt_perm (ms.map fun (x : Nat) => (x : Int))
  have s := isrt_sorted (ms.map fun (x : Nat) => (x : Int))
  have e : isrt (ms.map fun (x : Nat) => (x : Int)) = ((isrt (ms.map fun (x : Nat) => (x : Int))).map Int.toNat).map (fun (x : Nat) => (x : Int)) := by
    rw [List.map_map]
    refine ((List.map_congr_left fun x hx => ?_).trans (List.map_id _)).symm
    have := (p.mem_iff (a := x)).mp hx
    obtain ⟨y, _, rfl⟩ := List.mem_map.mp this
    simp
  refine ⟨(isrt (ms.map fun (x : Nat) => (x : Int))).map Int.toNat, e, ?_, ?_⟩
  · have := p.map Int.toNat
    rw [List.map_map] at this
    refine this.trans ?_
    rw [show (Int.toNat ∘ fun (x : Nat) => (x : Int)) = id by funext x; simp, List.map_id]
  · refine List.pairwise_map.mpr (s.imp fun {a b} h => ?_)
    omega
/-- the slots of _law_table -/
def bE (most : Nat) (tg many goes kinds met at_ to rows room : Option D) : EV := [some (.ref 1), some (.int (most : Nat)), tg, many, goes, kinds, met, at_, to, rows, room]
theorem table_call {b : Nat} {z c : Cell} {g : IH} {most : Nat} (h1 : 1 ≤ most) (h2 : most ≤ 32) (hp : Pn (b + 400) c) :
    ∃ (T : Tb) (c' : Cell), callC 2 m__law_table [.ref 1, .int (most : Nat)] (z :: c :: g) = .ok T.enc (z :: c' :: g) ∧ T.Ok ∧ T.goes.length ≤ most ∧ (∀ r < T.goes.length, Led T.goes r) ∧ Pn b c' := by
  obtain ⟨t, c1, e1, tg, p1⟩ := tongue_call (b := b + 390) (z := z) (g := g) (hp.mono (by omega))
  obtain ⟨u, c2, e2, u2, p2⟩ := draw_call (b := b + 389) (z := z) (g := g) (m := 7) (p1.mono (by omega)) (by omega) (by omega)
  obtain ⟨v, c3, e3, v3, p3⟩ := draw_call (b := b + 388) (z := z) (g := g) (m := 6) (p2.mono (by omega)) (by omega) (by omega)
  obtain ⟨many, c4, m4, p4, e4⟩ : ∃ (many : Nat) (c4 : Cell), 1 ≤ many ∧ Pn (b + 387) c4 ∧ (msIf (mTb (mOp (dEq false) (mCall 2 (m__law_draw) (mCons (mVar 0) (mCons (mC (.int 6)) (mNil)))) (mC (.int 0)))) (msSet 3 (mOp dAdd (mC (.int 1)) (mCall 2 (m__law_draw) (mCons (mVar 0) (mCons (mVar 1) (mNil)))))) (msNil)) (bE most (some (.str t)) (some (.int (2 + (u : Nat)))) none none none none none none none) (z :: c2 :: g) = .nx (bE most (some (.str t)) (some (.int (many : Nat))) none none none none none none none) (z :: c4 :: g) := by
    unfold bE
    by_cases q : v = 0
    · subst q
      obtain ⟨w, c4, e4, w4, p4⟩ := draw_call (b := b + 387) (z := z) (g := g) (m := (most : Nat)) (p3.mono (by omega)) (by omega) (by omega)
      exact ⟨1 + w, c4, by omega, p4, by simp [e3, e4]⟩
    · exact ⟨2 + u, c3, by omega, p3.mono (by omega), by simp [e3, q]⟩
  have mm : (if (most : Int) < (many : Int) then (most : Int) else (many : Int)) = ((min many most : Nat) : Int) := by split <;> omega
  obtain ⟨goes, kinds, c5, e5, gl, gg, kl, k0, kk, p5⟩ := rooms_call (b := b + 80) (z := z) (c := c4) (g := g) (tg := t) (many := min many most) tg.l2 (by omega) (by omega) (p4.mono (by omega))
  have bm : ∀ h, bMin2 [.int (many : Nat), .int (most : Nat)] h = .ok (.int ((min many most : Nat) : Int)) h := fun h => by rw [bMin2_int, mm]
  generalize hN : min many most = N at *
  have N1 : 1 ≤ N := by omega
  have N2 : N ≤ 32 := by omega
  have ga : ∀ r < N, ∃ row, goes[r]? = some row ∧ row.length = t.length ∧ ∀ x ∈ row, x < N := fun r hr => by
    have hl : r < goes.length := by omega
    exact ⟨goes[r], List.getElem?_eq_getElem hl, gg _ (List.getElem_mem hl)⟩
  -- the rooms that are met
  obtain ⟨_, _, _, e6, ⟨met, at_, to, rfl, rfl, ml, mn, mb, m0, ma, mc, mL⟩, e7⟩ := while_nx (c := t__law_table_2) (s := b__law_table_3) (fun k env h => ∃ (met : List Nat) (at_ : Nat) (to : Option D), env = bE most (some (.str t)) (some (.int (many : Nat))) (some (.fl (goes.map gD))) (some (.fl (kinds.map D.int))) (some (.ref (g.length + 2))) (some (.int (at_ : Nat))) to none none ∧ h = z :: c5 :: (g ++ [Cell.lst (met.map nD)]) ∧ met.length ≤ N ∧ met.Nodup ∧ (∀ x ∈ met, x < N) ∧ met[0]? = some 0 ∧ at_ + k = N + 1 ∧ (∀ j < at_, ∀ r row, met[j]? = some r → goes[r]? = some row → ∀ x ∈ row, x ∈ met) ∧ ∀ x ∈ met, Led goes x) (N + 1)
    (bE most (some (.str t)) (some (.int (many : Nat))) (some (.fl (goes.map gD))) (some (.fl (kinds.map D.int))) (some (.ref (g.length + 2))) (some (.int 0)) none none none) (z :: c5 :: (g ++ [Cell.lst [.int 0]]))
    ⟨[0], 0, none, rfl, rfl, by simpa using N1, by simp, by simp; omega, rfl, by omega, by intro j hj; omega, by simp; exact .zero⟩ (by
      rintro k env h ⟨met, at_, to, rfl, rfl, ml, mn, mb, m0, ma, mc, mL⟩
      have lc : ∀ ms : List Nat, bLen [.ref (g.length + 2)] (z :: c5 :: (g ++ [Cell.lst (ms.map nD)])) = .ok (.int (ms.length : Nat)) (z :: c5 :: (g ++ [Cell.lst (ms.map nD)])) := fun ms => by
        rw [bLen_ref (xs := ms.map nD) (by simp)]; simp
      by_cases q : at_ < met.length
      · left
        have hr : met[at_]? = some met[at_] := List.getElem?_eq_getElem q
        generalize met[at_] = r at hr
        obtain ⟨row, er, rl, rb⟩ := ga r (mb r (List.mem_of_getElem? hr))
        obtain ⟨_, _, e8, met2, to2, rfl, rfl, ml2, mn2, mb2, mx2, mr2, mL2⟩ := for_nx (s := b__law_table_1) (gg := gSet 8) (ds := row.map nD) (env := bE most (some (.str t)) (some (.int (many : Nat))) (some (.fl (goes.map gD))) (some (.fl (kinds.map D.int))) (some (.ref (g.length + 2))) (some (.int (at_ : Nat))) to none none) (h := z :: c5 :: (g ++ [Cell.lst (met.map nD)]))
          (fun i env h => ∃ (met2 : List Nat) (to : Option D), env = bE most (some (.str t)) (some (.int (many : Nat))) (some (.fl (goes.map gD))) (some (.fl (kinds.map D.int))) (some (.ref (g.length + 2))) (some (.int (at_ : Nat))) to none none ∧ h = z :: c5 :: (g ++ [Cell.lst (met2.map nD)]) ∧ met2.length ≤ N ∧ met2.Nodup ∧ (∀ x ∈ met2, x < N) ∧ (∃ w, met2 = met ++ w) ∧ (∀ j < i, ∀ x, row[j]? = some x → x ∈ met2) ∧ ∀ x ∈ met2, Led goes x)
          ⟨met, to, rfl, rfl, ml, mn, mb, ⟨[], by simp⟩, by intro j hj; omega, mL⟩ (by
            rintro i d env h hd ⟨met2, to, rfl, rfl, ml2, mn2, mb2, ⟨w, rfl⟩, mr2, mL2⟩
            rw [List.getElem?_map] at hd
            cases hx : row[i]? with
            | none => rw [hx] at hd; cases hd
            | some x =>
              rw [hx] at hd
              cases hd
              have xN := rb x (List.mem_of_getElem? hx)
              have ein : dIn true (.int (x : Nat)) (.ref (g.length + 2)) (z :: c5 :: (g ++ [Cell.lst ((met ++ w).map nD)])) = .ok (.bl (!decide (x ∈ met ++ w))) (z :: c5 :: (g ++ [Cell.lst ((met ++ w).map nD)])) := by
                rw [dIn_nats (ns := met ++ w) (seqOf_ref (by simp))]; rfl
              have ty : tyD "list" (z :: c5 :: (g ++ [Cell.lst ((met ++ w).map nD)])) (.ref (g.length + 2)) = true := tyD_ref (xs := (met ++ w).map nD) (by simp)
              have ap : fAppend (.ref (g.length + 2)) [.int (x : Nat)] (z :: c5 :: (g ++ [Cell.lst ((met ++ w).map nD)])) = .ok .non (z :: c5 :: (g ++ [Cell.lst ((met ++ w ++ [x]).map nD)])) := by
                rw [append_at (xs := (met ++ w).map nD) (by simp) (by rw [List.length_map]; omega)]
                simp [nD]
              by_cases qx : x ∈ met ++ w
              · rw [decide_eq_true qx] at ein
                refine ⟨_, bE most (some (.str t)) (some (.int (many : Nat))) (some (.fl (goes.map gD))) (some (.fl (kinds.map D.int))) (some (.ref (g.length + 2))) (some (.int (at_ : Nat))) (some (.int (x : Nat))) none none, _, rfl, by unfold b__law_table_1 bE; simp [gSet, nD, -List.map_append, ein], met ++ w, _, rfl, rfl, ml2, mn2, mb2, ⟨w, rfl⟩, fun j hj y hy => ?_, mL2⟩
                rcases Nat.lt_or_eq_of_le (Nat.lt_succ_iff.mp hj) with hj | rfl
                · exact mr2 j hj y hy
                · rw [hx] at hy; cases hy; exact qx
              · rw [decide_eq_false qx] at ein
                have nd3 : (met ++ w ++ [x]).Nodup := by
                  rw [List.nodup_append]
                  exact ⟨mn2, by simp, fun a ha b hb => by rw [List.mem_singleton] at hb; subst hb; exact fun z => qx (z ▸ ha)⟩
                have mb3 : ∀ y ∈ met ++ w ++ [x], y < N := fun y hy => by
                  rcases List.mem_append.mp hy with hy | hy
                  · exact mb2 y hy
                  · simp at hy; omega
                have le3 : (met ++ w ++ [x]).length ≤ N := by
                  exact nodup_len N _ nd3 mb3
                refine ⟨_, bE most (some (.str t)) (some (.int (many : Nat))) (some (.fl (goes.map gD))) (some (.fl (kinds.map D.int))) (some (.ref (g.length + 2))) (some (.int (at_ : Nat))) (some (.int (x : Nat))) none none, _, rfl, by unfold b__law_table_1 bE; simp [gSet, nD, -List.map_append, ein, ty]; rw [ap]; simp, met ++ w ++ [x], _, rfl, rfl, le3, nd3, mb3, ⟨w ++ [x], by simp⟩, fun j hj y hy => ?_, fun y hy => ?_⟩
                · rcases Nat.lt_or_eq_of_le (Nat.lt_succ_iff.mp hj) with hj | rfl
                  · exact List.mem_append_left _ (mr2 j hj y hy)
                  · rw [hx] at hy; cases hy; simp
                · rcases List.mem_append.mp hy with hy | hy
                  · exact mL2 y hy
                  · rw [List.mem_singleton] at hy
                    subst hy
                    exact .step (mL r (List.mem_of_getElem? hr)) er hx)
        obtain ⟨w, rfl⟩ := mx2
        have g1 : dIx (.ref (g.length + 2)) (.int (at_ : Nat)) (z :: c5 :: (g ++ [Cell.lst (met.map nD)])) = .ok (nD r) (z :: c5 :: (g ++ [Cell.lst (met.map nD)])) := dIx_nat (seqOf_ref (xs := met.map nD) (by simp)) (by rw [List.getElem?_map, hr]; rfl)
        have g2 : ∀ h, dIx (.fl (goes.map gD)) (.int (r : Nat)) h = .ok (gD row) h := fun h => dIx_nat (xs := goes.map gD) rfl (by rw [List.getElem?_map, er]; rfl)
        refine ⟨bE most (some (.str t)) (some (.int (many : Nat))) (some (.fl (goes.map gD))) (some (.fl (kinds.map D.int))) (some (.ref (g.length + 2))) (some (.int ((at_ + 1 : Nat) : Int))) to2 none none, _, by unfold t__law_table_2 bE; simp [lc, q], by
          unfold bE at e8 ⊢
          unfold b__law_table_3
          simp [g1, nD_eq, g2]
          rw [show gD row = .fl (row.map nD) from rfl]
          simp [e8], k - 1, by omega, met ++ w, at_ + 1, to2, rfl, rfl, ml2, mn2, mb2, by rw [List.getElem?_append_left (by omega)]; exact m0, by omega, fun j hj r' row' e1' e2' y hy => ?_, mL2⟩
        rw [List.getElem?_append_left (by omega)] at e1'
        rcases Nat.lt_or_eq_of_le (Nat.lt_succ_iff.mp hj) with hj | rfl
        · exact List.mem_append_left _ (mc j hj r' row' e1' e2' y hy)
        · rw [hr] at e1'
          cases e1'
          rw [er] at e2'
          cases e2'
          obtain ⟨j2, hj2⟩ := List.mem_iff_getElem?.mp hy
          exact mr2 j2 (by rw [List.length_map]; exact (List.getElem?_eq_some_iff.mp hj2).1) y hj2
      · right
        unfold t__law_table_2 bE
        simp [lc]
        omega)
  have at0 : met.length ≤ at_ := by
    revert e7
    unfold t__law_table_2 bE
    have lc : bLen [.ref (g.length + 2)] (z :: c5 :: (g ++ [Cell.lst (met.map nD)])) = .ok (.int (met.length : Nat)) (z :: c5 :: (g ++ [Cell.lst (met.map nD)])) := by
      rw [bLen_ref (xs := met.map nD) (by simp)]; simp
    simp [lc]
  -- sorted
  obtain ⟨ms, es, pm, so⟩ := nat_sort met
  have mem : ∀ x, x ∈ ms ↔ x ∈ met := fun x => pm.mem_iff
  have nd : ms.Nodup := pm.nodup_iff.mpr mn
  have len : ms.length = met.length := pm.length_eq
  have closed : ∀ x ∈ ms, ∀ row, goes[x]? = some row → ∀ y ∈ row, y ∈ ms := fun x hx row er y hy => by
    obtain ⟨j, hj⟩ := List.mem_iff_getElem?.mp ((mem x).mp hx)
    have := (List.getElem?_eq_some_iff.mp hj).1
    exact (mem y).mpr (mc j (by omega) x row hj er y hy)
  have m00 : ms[0]? = some 0 := by
    have h0 : 0 ∈ ms := (mem 0).mpr (List.mem_of_getElem? m0)
    cases ms with
    | nil => cases h0
    | cons a l =>
      have := List.pairwise_cons.mp so
      rcases List.mem_cons.mp h0 with h | h
      · rw [← h]; rfl
      · have := this.1 0 h
        have : a = 0 := by omega
        rw [this]; rfl
  have row_of : ∀ x ∈ ms, ∃ row, goes[x]? = some row ∧ row.length = t.length ∧ ∀ y ∈ row, y ∈ ms := fun x hx => by
    obtain ⟨row, er, rl, _⟩ := ga x (mb x ((mem x).mp hx))
    exact ⟨row, er, rl, closed x hx row er⟩
  have kin_of : ∀ x ∈ ms, ∃ k, kinds[x]? = some k ∧ -1 ≤ k ∧ k ≤ 5 := fun x hx => by
    have hl : x < kinds.length := by have := mb x ((mem x).mp hx); omega
    exact ⟨kinds[x], List.getElem?_eq_getElem hl, kk _ (List.getElem_mem hl)⟩
  -- the parts
  have r5 : ∀ (room : Option D) (at2 : Nat) (to2 : Option D) (x : Nat) (w : Cell), x ∈ ms → e__law_table_5 (bE most (some (.str t)) (some (.int (many : Nat))) (some (.fl (goes.map gD))) (some (.fl (kinds.map D.int))) (some (.fl (ms.map nD))) (some (.int (at2 : Nat))) to2 none (some (nD x))) (z :: c5 :: (g ++ [Cell.frz (met.map nD), w])) = .ok (gT ((goes.getD x []).map fun y => ms.idxOf y)) (z :: c5 :: (g ++ [Cell.frz (met.map nD), w])) := fun room at2 to2 x w hx => by
    obtain ⟨row, er, rl, rin⟩ := row_of x hx
    have g2 : ∀ h, dIx (.fl (goes.map gD)) (.int (x : Nat)) h = .ok (.fl (row.map nD)) h := fun h => dIx_nat (xs := goes.map gD) rfl (by rw [List.getElem?_map, er]; rfl)
    have it : iSeq (mOp dIx (mVar 4) (mVar 10)) (bE most (some (.str t)) (some (.int (many : Nat))) (some (.fl (goes.map gD))) (some (.fl (kinds.map D.int))) (some (.fl (ms.map nD))) (some (.int (at2 : Nat))) to2 none (some (nD x))) (z :: c5 :: (g ++ [Cell.frz (met.map nD), w])) = .ok (.st (row.map nD)) (z :: c5 :: (g ++ [Cell.frz (met.map nD), w])) := by
      unfold bE
      simp [nD_eq, g2]
    have comp := lcF_map (ws := [8]) (gg := gSet 8) (m := e__law_table_4) (ds := row.map nD) (fun d => match d with | .int v => nD (ms.idxOf v.toNat) | d => d) it (by simp; have := tg.l2; omega) (fun d hd => by
      obtain ⟨y, _, rfl⟩ := List.mem_map.mp hd
      rfl) (fun d hd => by
      obtain ⟨y, hy, rfl⟩ := List.mem_map.mp hd
      refine ⟨_, rfl, fun x => ?_⟩
      have fi : ∀ h, fIndexL (.fl (ms.map nD)) [.int (y : Nat)] h = .ok (nD (ms.idxOf y)) h := fun h => fIndexL_nats (rin y hy)
      unfold e__law_table_4 bE mOrE
      simp [wipeE, gSet, nD_eq, fi])
    unfold e__law_table_5
    rw [show goes.getD x [] = row by rw [List.getD_eq_getElem?_getD, er]; rfl]
    unfold bE at comp ⊢
    simp [comp, gT]
    intro y _
    rfl
  have r6 : ∀ (at2 : Nat) (to2 r9 : Option D) (x : Nat) (h : IH), x ∈ ms → e__law_table_6 (bE most (some (.str t)) (some (.int (many : Nat))) (some (.fl (goes.map gD))) (some (.fl (kinds.map D.int))) (some (.fl (ms.map nD))) (some (.int (at2 : Nat))) to2 r9 (some (nD x))) h = .ok (.int (kinds.getD x 0)) h := fun at2 to2 r9 x h hx => by
    obtain ⟨k, ek, _⟩ := kin_of x hx
    have g2 : dIx (.fl (kinds.map D.int)) (.int (x : Nat)) h = .ok (.int k) h := dIx_nat (xs := kinds.map D.int) rfl (by rw [List.getElem?_map, ek]; rfl)
    unfold e__law_table_6 bE
    simp [nD_eq, g2, ek]
  let T : Tb := ⟨t, ms.map fun x => (goes.getD x []).map fun y => ms.idxOf y, ms.map fun x => kinds.getD x 0⟩
  have comp1 := lcF_map (it := iSeq (mVar 6)) (ws := [10]) (gg := gSet 10) (m := e__law_table_5) (ds := ms.map nD) (h := z :: c5 :: (g ++ [Cell.frz (met.map nD)])) (env := bE most (some (.str t)) (some (.int (many : Nat))) (some (.fl (goes.map gD))) (some (.fl (kinds.map D.int))) (some (.fl (ms.map nD))) (some (.int (at_ : Nat))) to none none)
    (fun d => match d with | .int v => gT ((goes.getD v.toNat []).map fun y => ms.idxOf y) | d => d) rfl (by simp; omega) (fun d hd => by
      obtain ⟨x, _, rfl⟩ := List.mem_map.mp hd
      simp [nD]) (fun d hd => by
      obtain ⟨x, hx, rfl⟩ := List.mem_map.mp hd
      refine ⟨_, rfl, fun w => ?_⟩
      have := r5 none at_ to x w hx
      unfold bE at this ⊢
      simpa [wipeE, nD] using this)
  have comp2 : ∀ r9 : Option D, mFz (mLc (iSeq (mVar 6)) (gSet 10) mYes e__law_table_6 [10]) (bE most (some (.str t)) (some (.int (many : Nat))) (some (.fl (goes.map gD))) (some (.fl (kinds.map D.int))) (some (.fl (ms.map nD))) (some (.int (at_ : Nat))) to r9 none) (z :: c5 :: (g ++ [Cell.frz (met.map nD)])) = .ok (.fl (T.kinds.map D.int)) (z :: c5 :: (g ++ [Cell.frz (met.map nD)])) := fun r9 => by
    rw [lcF_map (ds := ms.map nD) (gg := gSet 10) (fun d => match d with | .int v => .int (kinds.getD v.toNat 0) | d => d) rfl (by simp; omega) (fun d hd => by
      obtain ⟨x, _, rfl⟩ := List.mem_map.mp hd
      rfl) (fun d hd => by
      obtain ⟨x, hx, rfl⟩ := List.mem_map.mp hd
      refine ⟨_, rfl, fun w => ?_⟩
      have := r6 at_ to r9 x (z :: c5 :: (g ++ [Cell.frz (met.map nD)]) ++ [w]) hx
      unfold bE at this ⊢
      simpa [wipeE, nD] using this)]
    simp [T, nD]
  have tD : (ms.map nD).map (fun d => match d with | .int v => gT ((goes.getD v.toNat []).map fun y => ms.idxOf y) | d => d) = T.goes.map gT := by
    simp [T, nD]
  rw [tD] at comp1
  have sr : ∀ h, bSorted [.fl (met.map nD)] h = newL h (ms.map nD) := fun h => by
    have e : (lstOf h (.fl (met.map nD))).bind (allM D.int?) = some (met.map fun (x : Nat) => (x : Int)) := by
      rw [nD_map]
      exact allM_mkInts _
    unfold bSorted
    dsimp only
    rw [e]
    dsimp only
    rw [es, ← nD_map]
    rfl
  have gl2 : T.goes.length = ms.length := by simp [T]
  have m1 : 1 ≤ ms.length := by have := (List.getElem?_eq_some_iff.mp m00).1; omega
  have row2 : ∀ (r : Nat) (row : List Nat), T.goes[r]? = some row → ∃ (x : Nat) (ro : List Nat), ms[r]? = some x ∧ goes[x]? = some ro ∧ row = ro.map (fun y => ms.idxOf y) := fun r row e => by
    simp only [T, List.getElem?_map, Option.map_eq_some_iff] at e
    obtain ⟨x, ex, rfl⟩ := e
    obtain ⟨ro, er, _⟩ := row_of x (List.mem_of_getElem? ex)
    exact ⟨x, ro, ex, er, by rw [List.getD_eq_getElem?_getD, er]; rfl⟩
  have ok : T.Ok := by
    refine ⟨tg, by omega, by omega, fun r hr => ?_, by simp [T], ?_, fun k hk => ?_⟩
    · obtain ⟨j, hj⟩ := List.mem_iff_getElem?.mp hr
      obtain ⟨x, ro, ex, er, rfl⟩ := row2 j r hj
      obtain ⟨ro', er', rl, rin⟩ := row_of x (List.mem_of_getElem? ex)
      rw [er] at er'
      cases er'
      refine ⟨by rw [List.length_map, rl], fun y hy => ?_⟩
      obtain ⟨y0, hy0, rfl⟩ := List.mem_map.mp hy
      rw [gl2]
      exact List.idxOf_lt_length_of_mem (rin y0 hy0)
    · have : kinds[0]? = some (-1) := k0
      simp [T, m00, this]
    · obtain ⟨x, hx, rfl⟩ := List.mem_map.mp hk
      obtain ⟨k, ek, k1, k2⟩ := kin_of x hx
      have : kinds.getD x 0 = k := by rw [List.getD_eq_getElem?_getD, ek]; rfl
      rw [this]
      exact ⟨k1, k2⟩
  have led : ∀ x, Led goes x → x ∈ ms ∧ Led T.goes (ms.idxOf x) := fun x hx => by
    induction hx with
    | zero =>
      refine ⟨List.mem_of_getElem? m00, ?_⟩
      have : ms.idxOf 0 = 0 := by
        cases ms with
        | nil => simp at m00
        | cons a l => simp at m00; subst m00; exact List.idxOf_cons_self
      rw [this]
      exact .zero
    | @step r s k row h e e2 ih =>
      obtain ⟨rm, rL⟩ := ih
      have sm := closed r rm row e s (List.mem_of_getElem? e2)
      refine ⟨sm, .step (k := k) (row := row.map fun y => ms.idxOf y) rL ?_ (by rw [List.getElem?_map, e2]; rfl)⟩
      have : ms[ms.idxOf r]? = some r := (idx_first rm).1
      simp [T, this, e]
  refine ⟨T, c5, callC_pen (g' := [Cell.frz (met.map nD)]) rfl ?_ (by simp) (fun k _ => p5.lo k), ok, by omega, fun r hr => ?_, p5.mono (by omega)⟩
  · unfold bE at e4 e6 comp1 comp2
    unfold m__law_table
    rw [ap_fnM]
    simp only [ap_msCons, ap_msSet, ap_mCall, ap_mCons, ap_mNil, ap_mVar, ap_mC, ap_mOp, bind_ok, bindS_ok, then_nx, List.map_cons, List.map_nil, List.length_cons, List.length_nil, List.cons_append, List.nil_append, List.replicate, List.set_cons_zero, List.set_cons_succ, List.getElem?_cons_zero, List.getElem?_cons_succ, e1, e2, dAdd_int, Nat.reduceAdd, Nat.reduceSub]
    rw [e4]
    simp [bm, -bMin2_int, e5, newL_bindS, gSets, e6, msFz, sr, fz_newL, fzD_same, comp1, comp2, Nat.add_assoc]
    rfl
  · rw [gl2] at hr
    have hx : ms[r]? = some ms[r] := List.getElem?_eq_getElem hr
    have := (led ms[r] (mL _ ((mem _).mp (List.getElem_mem hr)))).2
    rwa [nd.idxOf_getElem r hr] at this
end NR

set_option Elab.async false
set_option linter.all false
set_option maxRecDepth 100000
set_option maxHeartbeats 4000000
namespace NR
open PySem PySem.Spec PyProof.Rows L2
theorem sgs_of {t : List Nat} : ∀ {ys : List D}, (∀ y ∈ ys, ∃ k, k ∈ t ∧ y = .str [k]) → ∃ s : List Nat, ys = sgD s ∧ ∀ k ∈ s, k ∈ t
  | [], _ => ⟨[], rfl, by simp⟩
  | y :: ys, h => by
    obtain ⟨k, hk, rfl⟩ := h y List.mem_cons_self
    obtain ⟨s, rfl, hs⟩ := sgs_of fun z hz => h z (List.mem_cons_of_mem _ hz)
    exact ⟨k :: s, rfl, by simpa using ⟨hk, hs⟩⟩
theorem join_sg {s : List Nat} {h : IH} (l : s.length ≤ 10000000) : fJoin (.str []) [.fl (sgD s)] h = .ok (.str s) h := by
  have e : sgD s = (s.map fun c => [c]).map D.str := by unfold sgD; rw [List.map_map]; rfl
  have f : (s.map fun c => [c]).flatten = s := by
    clear l e
    induction s with
    | nil => rfl
    | cons c s ih => simp [ih]
  unfold fJoin
  dsimp only
  rw [seqOf_fl, e]
  show (match allM D.str? ((s.map fun c => [c]).map D.str) with | some ys => _ | none => _) = _
  rw [allM_mkStrs]
  dsimp only
  rw [sum_lens, f, List.length_nil, Nat.mul_zero, Nat.add_zero, joinN_nil, f, if_pos l]
/-- .. whose steps draw: Pn b c says that the pen's cell c can draw b times -/
theorem lcF_penI {env : EV} {m : ME} {it : MI} {gg : MG} {ws : List Nat} {ds : List D} {z cc c0 : Cell} {g : IH} {Pn : Nat → Cell → Prop} {b K : Nat} (lop : ∀ b c k, Pn b c → Cell.lo k c = true) (Po : Nat → D → Prop) (hi : it env (z :: cc :: g) = .ok (.st ds) (z :: c0 :: g)) (hl : ds.length ≤ 9000000)
    (hp : Pn (b + K * ds.length) c0) (lo : ∀ i y k, Po i y → D.lo k y = true)
    (step : ∀ i d, ds[i]? = some d → ∃ e1, gg d (wipeE env ws) = some e1 ∧ ∀ b c g, Pn (b + K) c → ∃ y c', m e1 (z :: c :: g) = .ok y (z :: c' :: g) ∧ Pn b c' ∧ Po i y) :
    ∃ ys c', mFz (mLc it gg mYes m ws) env (z :: cc :: g) = .ok (.fl ys) (z :: c' :: g) ∧ ys.length = ds.length ∧ (∀ i y, ys[i]? = some y → Po i y) ∧ Pn b c' := by
  have main : ∃ ys c', lcM (.st ds) gg mYes m (z :: c0 :: g).length ((Src.st ds).many (z :: c0 :: g) + 1) 0 (wipeE env ws) ((z :: c0 :: g) ++ [Cell.lst []]) = .ok (.ref (z :: c0 :: g).length) (z :: c' :: (g ++ [Cell.lst ys])) ∧ ys.length = ds.length ∧ (∀ i y, ys[i]? = some y → Po i y) ∧ Pn b c' := by
    refine lcM_inv (P := fun i h' => ∃ ys c', h' = z :: c' :: (g ++ [Cell.lst ys]) ∧ ys.length = i ∧ (∀ j y, ys[j]? = some y → Po j y) ∧ Pn (b + K * (ds.length - i)) c') (Rs := fun r => ∃ ys c', r = .ok (.ref (z :: c0 :: g).length) (z :: c' :: (g ++ [Cell.lst ys])) ∧ ys.length = ds.length ∧ (∀ i y, ys[i]? = some y → Po i y) ∧ Pn b c') ?_ ?_ ?_
    · rintro i d h' hd ⟨ys, c', rfl, l1, p1, n1⟩
      have hi' := (List.getElem?_eq_some_iff.mp hd).1
      obtain ⟨e1, g1, st⟩ := step i d hd
      have e0 : ds.length - i = (ds.length - (i + 1)) + 1 := by omega
      rw [e0, Nat.mul_succ, ← Nat.add_assoc] at n1
      obtain ⟨y, c2, e2, n2, p2⟩ := st _ c' (g ++ [Cell.lst ys]) n1
      refine ⟨e1, g1, ?_⟩
      show ∃ y h3 acc, m e1 _ = .ok y h3 ∧ _
      refine ⟨y, _, ys, e2, by simp, by omega, ys ++ [y], c2, by simp, by simp [l1], fun j z hz => ?_, n2⟩
      by_cases hj : j < ys.length
      · rw [List.getElem?_append_left hj] at hz
        exact p1 j z hz
      · have hj2 : j = ys.length := by
          have := (List.getElem?_eq_some_iff.mp hz).1
          simp at this
          omega
        subst hj2
        rw [List.getElem?_append_right (Nat.le_refl _), Nat.sub_self] at hz
        simp at hz
        subst hz
        rw [l1]
        exact p2
    · rintro h' ⟨ys, c', rfl, l1, p1, n1⟩
      rw [Nat.sub_self, Nat.mul_zero, Nat.add_zero] at n1
      exact ⟨ys, c', rfl, l1, p1, n1⟩
    · exact ⟨[], c0, by simp, rfl, by simp, by simpa using hp⟩
  obtain ⟨ys, c', e, l1, p1, n1⟩ := main
  refine ⟨ys, c', ?_, l1, p1, n1⟩
  rw [ap_mFz0, ap_mLc, hi]
  show fzR _ (lcM _ _ _ _ _ _ _ _ _) = _
  rw [e, fzR_at (xs := ys) (by simp) (by simp) (loL_of fun x hx => by
    obtain ⟨j, hj⟩ := List.mem_iff_getElem?.mp hx
    exact lo j x _ (p1 j x hj)) (by simp [lop b c' _ n1])]
  simp
/-- a word that is drawn sign by sign, joined -/
theorem word_draw {env : EV} {it : MI} {k : Nat} {e : ME} {z cc c0 : Cell} {g : IH} {t : List Nat} {n b : Nat} (nl : n ≤ 100000) (hi : it env (z :: cc :: g) = .ok (.st (intsFrom 0 n)) (z :: c0 :: g)) (hp : Pn (b + n) c0)
    (step : ∀ d b c g, Pn (b + 1) c → ∃ s c', e ((wipeE env [k]).set k (some d)) (z :: c :: g) = .ok (.str [s]) (z :: c' :: g) ∧ Pn b c' ∧ s ∈ t) :
    ∃ s c', mFz (mLc it (gSet k) mYes e [k]) env (z :: cc :: g) = .ok (.fl (sgD s)) (z :: c' :: g) ∧ s.length = n ∧ (∀ x ∈ s, x ∈ t) ∧ Pn b c' ∧ ∀ h : IH, fJoin (.str []) [.fl (sgD s)] h = .ok (.str s) h := by
  obtain ⟨ys, c4, e4, yl, yp, p4⟩ := lcF_penI (Pn := Pn) (b := b) (K := 1) (z := z) (cc := cc) (c0 := c0) (g := g) (ds := intsFrom 0 n) (env := env) (it := it) (gg := gSet k) (ws := [k]) (m := e) Pn_lo
    (fun _ y => ∃ k, k ∈ t ∧ y = .str [k]) hi (by simp; omega) (hp.mono (by simp)) (by rintro _ y k ⟨x, _, rfl⟩; rfl) (fun j d _ => ⟨_, rfl, fun b c g hb => by
      obtain ⟨s, c', e1, e2, e3⟩ := step d b c g hb
      exact ⟨_, c', e1, e2, s, e3, rfl⟩⟩)
  obtain ⟨s, rfl, sb⟩ := sgs_of (t := t) fun y hy => by
    obtain ⟨j, hj⟩ := List.mem_iff_getElem?.mp hy
    exact yp j y hj
  have sl : s.length = n := by simpa [sgD] using yl
  exact ⟨s, c4, e4, sl, sb, p4, fun h => join_sg (by omega)⟩
end NR

set_option Elab.async false
set_option linter.all false
set_option maxRecDepth 100000
set_option maxHeartbeats 4000000
namespace NR
open PySem PySem.Spec PyProof.Rows L2
/-! ### goes, kinds, pieces -/
def Tb.go (T : Tb) (r c : Nat) : Nat := (T.goes.getD r []).getD ((fnd c T.sig).getD 0) 0
def Tb.kind (T : Tb) (r : Nat) : Int := T.kinds.getD r (-1)
def Tb.n (T : Tb) : Nat := T.goes.length
theorem fnd_mem {c : Nat} {s : List Nat} (h : c ∈ s) : ∃ i, fnd c s = some i ∧ i < s.length := by
  cases e : fnd c s with
  | none => exact absurd h (fnd_none.mp e)
  | some i => exact ⟨i, rfl, (List.getElem?_eq_some_iff.mp (fnd_some.mp e).1).1⟩
theorem Tb.Ok.go {T : Tb} (ok : T.Ok) {r c : Nat} (hr : r < T.n) (hc : c ∈ T.sig) : ∃ row i, T.goes[r]? = some row ∧ fnd c T.sig = some i ∧ row[i]? = some (T.go r c) ∧ T.go r c < T.n := by
  have er : T.goes[r]? = some T.goes[r] := List.getElem?_eq_getElem hr
  obtain ⟨l, b⟩ := ok.row T.goes[r] (List.getElem_mem hr)
  obtain ⟨i, ei, hi⟩ := fnd_mem hc
  have hi2 : i < T.goes[r].length := by omega
  have e : T.go r c = T.goes[r][i] := by
    unfold Tb.go
    rw [ei, List.getD_eq_getElem?_getD (l := T.goes), er]
    simp [hi2]
  exact ⟨_, i, er, ei, by rw [e]; exact List.getElem?_eq_getElem hi2, by rw [e]; exact b _ (List.getElem_mem hi2)⟩
theorem Tb.Ok.kindAt {T : Tb} (ok : T.Ok) {r : Nat} (hr : r < T.n) : T.kinds[r]? = some (T.kind r) := by
  have : r < T.kinds.length := by rw [ok.kl]; exact hr
  unfold Tb.kind
  rw [List.getD_eq_getElem?_getD, List.getElem?_eq_getElem this]
  rfl
section
variable {T : Tb} {r c : Nat} {h : IH}
theorem ix_goes (ok : T.Ok) (hr : r < T.n) (hc : c ∈ T.sig) : ∃ (row : List Nat) (i : Nat), dIx (.tup (T.goes.map gT)) (.int (r : Nat)) h = .ok (.tup (row.map nD)) h ∧ fFind (.str T.sig) [.str [c]] h = .ok (.int (i : Nat)) h ∧ dIx (.tup (row.map nD)) (.int (i : Nat)) h = .ok (.int (T.go r c : Nat)) h := by
  obtain ⟨row, i, e1, e2, e3, _⟩ := ok.go hr hc
  exact ⟨row, i, dIx_nat (xs := T.goes.map gT) rfl (by rw [List.getElem?_map, e1]; rfl), by show R.ok (D.int (match fnd c T.sig with | some i => (i : Int) | none => -1)) h = _; rw [e2], dIx_nat (xs := row.map nD) rfl (by rw [List.getElem?_map, e3]; rfl)⟩
theorem ix_kind (ok : T.Ok) (hr : r < T.n) : dIx (.tup (T.kinds.map D.int)) (.int (r : Nat)) h = .ok (.int (T.kind r)) h := dIx_nat (xs := T.kinds.map D.int) rfl (by rw [List.getElem?_map, ok.kindAt hr]; rfl)
theorem tT0 : dIx T.enc (.int 0) h = .ok (.str T.sig) h := dIx_seq (xs := [.str T.sig, .tup (T.goes.map gT), .tup (T.kinds.map D.int)]) rfl (by omega) rfl
theorem tT1 : dIx T.enc (.int 1) h = .ok (.tup (T.goes.map gT)) h := dIx_seq (xs := [.str T.sig, .tup (T.goes.map gT), .tup (T.kinds.map D.int)]) rfl (by omega) rfl
theorem tT2 : dIx T.enc (.int 2) h = .ok (.tup (T.kinds.map D.int)) h := dIx_seq (xs := [.str T.sig, .tup (T.goes.map gT), .tup (T.kinds.map D.int)]) rfl (by omega) rfl
theorem ix_row {r : Nat} {row : List Nat} (e : T.goes[r]? = some row) : dIx (.tup (T.goes.map gT)) (.int (r : Nat)) h = .ok (gT row) h := dIx_nat (xs := T.goes.map gT) rfl (by simp [e])
theorem Tb.Ok.rowAt (ok : T.Ok) {r : Nat} (hr : r < T.n) : ∃ row, T.goes[r]? = some row ∧ row.length = T.sig.length ∧ ∀ x ∈ row, x < T.n :=
  ⟨_, List.getElem?_eq_getElem hr, ok.row _ (List.getElem_mem hr)⟩
end
end NR

set_option Elab.async false
set_option linter.all false
set_option maxRecDepth 100000
set_option maxHeartbeats 4000000
namespace NR
open PySem PySem.Spec PyProof.Rows L2
theorem is_text_call {t s : List Nat} (sl : s.length ≤ 9000000) (h : IH) : callC 2 m_is_text [.str t, .str s] h = .ok (.bl (s.all fun x => decide (x ∈ t))) h := by
  have comp := lcF_map (it := iSeq (mVar 1)) (ws := [2]) (gg := gSet 2) (m := e_is_text_1) (ds := sgD s) (h := h) (env := [some (.str t), some (.str s), none]) (fun d => match d with | .str [x] => .bl (decide (x ∈ t)) | d => d) (iSeq_str rfl (by omega)) (by simpa [sgD] using sl) (fun d hd => by
    obtain ⟨x, _, rfl⟩ := List.mem_map.mp hd
    rfl) (fun d hd => by
    obtain ⟨x, _, rfl⟩ := List.mem_map.mp hd
    exact ⟨_, rfl, fun w => by unfold e_is_text_1; simp [wipeE, gSet]⟩)
  have e : (sgD s).map (fun d => match d with | .str [x] => .bl (decide (x ∈ t)) | d => d) = (s.map fun x => decide (x ∈ t)).map D.bl := by
    unfold sgD
    rw [List.map_map, List.map_map]
    rfl
  rw [e] at comp
  refine callC_same rfl ?_
  unfold m_is_text
  simp [comp, -List.map_map]
theorem is_text_no {t : List Nat} {x : D} {h : IH} (e : isT "str" h x = some false) : callC 2 m_is_text [.str t, x] h = .ok (.bl false) h := by
  refine callC_same rfl ?_
  unfold m_is_text
  simp [e]
/-- what is no text of the tongue -/
def NoTx (t : List Nat) (h : IH) (x : D) : Prop := (∃ s, x = .str s ∧ s.length ≤ 1000 ∧ ∃ k ∈ s, k ∉ t) ∨ isT "str" h x = some false
theorem is_text_bad {t : List Nat} {x : D} {h : IH} (e : NoTx t h x) : callC 2 m_is_text [.str t, x] h = .ok (.bl false) h := by
  rcases e with ⟨s, rfl, l, k, hk, hn⟩ | e
  · rw [is_text_call (by omega)]
    have : (s.all fun x => decide (x ∈ t)) = false := by
      rw [List.all_eq_false]
      exact ⟨k, hk, by simpa using hn⟩
    rw [this]
  · exact is_text_no e
theorem is_text_good {t s : List Nat} (sl : s.length ≤ 1000) (sb : ∀ x ∈ s, x ∈ t) (h : IH) : callC 2 m_is_text [.str t, .str s] h = .ok (.bl true) h := by
  rw [is_text_call (by omega)]
  have : (s.all fun x => decide (x ∈ t)) = true := by
    rw [List.all_eq_true]
    exact fun x hx => by simpa using sb x hx
  rw [this]
end NR

set_option Elab.async false
set_option linter.all false
set_option maxRecDepth 100000
set_option maxHeartbeats 4000000
namespace NR
open PySem PySem.Spec PyProof.Rows L2
/-- the longest stretch with a kind, gone on from a room -/
def Tb.pieceGo (T : Tb) : Nat → Nat → Option (Int × Nat) → List Nat → Option (Int × Nat)
  | _, _, f, [] => f
  | r, p, f, c :: cs => T.pieceGo (T.go r c) (p + 1) (if 0 ≤ T.kind (T.go r c) then some (T.kind (T.go r c), p + 1) else f) cs
def Tb.first (T : Tb) (s : List Nat) (at_ : Nat) : Option (Int × Nat) := T.pieceGo 0 at_ none (s.drop at_)
def oD : Option (Int × Nat) → D
  | none => .non
  | some (k, e) => .tup [.int k, .int (e : Nat)]
@[simp] theorem lo_oD {n : Nat} {o : Option (Int × Nat)} : D.lo n (oD o) = true := by
  cases o <;> simp [oD]
theorem longest_call {T : Tb} (ok : T.Ok) {s : List Nat} {at_ : Nat} (sl : s.length ≤ 1000000) (sb : ∀ x ∈ s, x ∈ T.sig) (ha : at_ ≤ s.length) (h : IH) : callC 3 m_longest [T.enc, .str s, .int (at_ : Nat)] h = .ok (oD (T.first s at_)) h := by
  have bl : bLen [.str s] h = .ok (.int (s.length : Nat)) h := bLen_str (by omega)
  obtain ⟨_, _, e1, r, f, x, rfl, rfl, hr, hf⟩ := for_nx (s := b_longest_1) (gg := gSet 8) (ds := intsFrom (at_ : Nat) (s.length - at_)) (env := [some T.enc, some (.str s), some (.int (at_ : Nat)), some (.str T.sig), some (.tup (T.goes.map gT)), some (.tup (T.kinds.map D.int)), some (.int 0), some .non, none]) (h := h)
    (fun i env h2 => ∃ (r : Nat) (f : Option (Int × Nat)) (x : Option D), env = [some T.enc, some (.str s), some (.int (at_ : Nat)), some (.str T.sig), some (.tup (T.goes.map gT)), some (.tup (T.kinds.map D.int)), some (.int (r : Nat)), some (oD f), x] ∧ h = h2 ∧ r < T.n ∧ T.pieceGo r (at_ + i) f (s.drop (at_ + i)) = T.first s at_)
    ⟨0, none, none, rfl, rfl, ok.g1, rfl⟩ (by
      rintro i d env _ hd ⟨r, f, x, rfl, rfl, hr, hf⟩
      obtain ⟨hi, rfl⟩ := intsFrom_get hd
      have hc : s[at_ + i]? = some (s[at_ + i]'(by omega)) := List.getElem?_eq_getElem _
      generalize s[at_ + i]'(by omega) = c at hc
      have hm := sb c (List.mem_of_getElem? hc)
      obtain ⟨row, k, e1, e2, e3⟩ := ix_goes (h := h) ok hr hm
      obtain ⟨_, _, _, _, _, hr2⟩ := ok.go hr hm
      have e4 : dIx (.str s) (.int ((at_ : Nat) + (i : Nat) : Int)) h = .ok (.str [c]) h := dIx_str (by omega) (by rw [show ((at_ : Int) + (i : Int)).toNat = at_ + i by omega]; exact hc) (by omega)
      have e5 := ix_kind (h := h) ok hr2
      rw [List.drop_eq_getElem_cons (by omega), show s[at_ + i]'(by omega) = c by rw [List.getElem?_eq_getElem (by omega)] at hc; exact Option.some.inj hc] at hf
      refine ⟨_, [some T.enc, some (.str s), some (.int (at_ : Nat)), some (.str T.sig), some (.tup (T.goes.map gT)), some (.tup (T.kinds.map D.int)), some (.int (T.go r c : Nat)), some (oD (if 0 ≤ T.kind (T.go r c) then some (T.kind (T.go r c), at_ + i + 1) else f)), some (.int ((at_ : Nat) + (i : Nat)))], h, rfl, ?_, T.go r c, _, _, rfl, rfl, hr2, hf⟩
      unfold b_longest_1
      by_cases q : 0 ≤ T.kind (T.go r c)
      · simp [gSet, e1, e2, e3, e4, e5, q, oD]
      · simp [gSet, e1, e2, e3, e4, e5, q])
  rw [intsFrom_len, List.drop_eq_nil_of_le (by omega)] at hf
  refine callC_same rfl ?_
  unfold m_longest
  simp [gSets, show T.enc = .tup [.str T.sig, .tup (T.goes.map gT), .tup (T.kinds.map D.int)] from rfl] at e1 ⊢
  simp [bl, show -10000000 ≤ (at_ : Int) by omega, show (at_ : Int) ≤ 10000000 by omega, show -10000000 ≤ (s.length : Int) by omega, show (s.length : Int) ≤ 10000000 by omega, show s.length ≤ 10000000 by omega, show at_ ≤ 10000000 by omega, e1, show f = T.first s at_ from hf]
end NR

set_option Elab.async false
set_option linter.all false
set_option maxRecDepth 100000
set_option maxHeartbeats 4000000
namespace NR
open PySem PySem.Spec PyProof.Rows L2
theorem first_call {T : Tb} (ok : T.Ok) {s : List Nat} {at_ : Nat} (sl : s.length ≤ 1000000) (sb : ∀ x ∈ s, x ∈ T.sig) (ha : at_ ≤ s.length) (h : IH) : callC 3 m__law_first [T.enc, .str s, .int (at_ : Nat)] h = .ok (oD (T.first s at_)) h := by
  have bl : bLen [.str s] h = .ok (.int (s.length : Nat)) h := bLen_str (by omega)
  have t0 : ∀ h, dIx T.enc (.int 0) h = .ok (.str T.sig) h := fun h => dIx_seq (xs := [.str T.sig, .tup (T.goes.map gT), .tup (T.kinds.map D.int)]) rfl (by omega) rfl
  have t1 : ∀ h, dIx T.enc (.int 1) h = .ok (.tup (T.goes.map gT)) h := fun h => dIx_seq (xs := [.str T.sig, .tup (T.goes.map gT), .tup (T.kinds.map D.int)]) rfl (by omega) rfl
  have t2 : ∀ h, dIx T.enc (.int 2) h = .ok (.tup (T.kinds.map D.int)) h := fun h => dIx_seq (xs := [.str T.sig, .tup (T.goes.map gT), .tup (T.kinds.map D.int)]) rfl (by omega) rfl
  obtain ⟨_, _, e1, r, f, x, rfl, rfl, hr, hf⟩ := for_nx (s := b__law_first_1) (gg := gSet 5) (ds := intsFrom (at_ : Nat) (s.length - at_)) (env := [some T.enc, some (.str s), some (.int (at_ : Nat)), some (.int 0), some .non, none]) (h := h)
    (fun i env h2 => ∃ (r : Nat) (f : Option (Int × Nat)) (x : Option D), env = [some T.enc, some (.str s), some (.int (at_ : Nat)), some (.int (r : Nat)), some (oD f), x] ∧ h = h2 ∧ r < T.n ∧ T.pieceGo r (at_ + i) f (s.drop (at_ + i)) = T.first s at_)
    ⟨0, none, none, rfl, rfl, ok.g1, rfl⟩ (by
      rintro i d env _ hd ⟨r, f, x, rfl, rfl, hr, hf⟩
      obtain ⟨hi, rfl⟩ := intsFrom_get hd
      have hc : s[at_ + i]? = some (s[at_ + i]'(by omega)) := List.getElem?_eq_getElem _
      generalize s[at_ + i]'(by omega) = c at hc
      have hm := sb c (List.mem_of_getElem? hc)
      obtain ⟨row, k, e1, e2, e3⟩ := ix_goes (h := h) ok hr hm
      obtain ⟨_, _, _, _, _, hr2⟩ := ok.go hr hm
      have e4 : dIx (.str s) (.int ((at_ : Nat) + (i : Nat) : Int)) h = .ok (.str [c]) h := dIx_str (by omega) (by rw [show ((at_ : Int) + (i : Int)).toNat = at_ + i by omega]; exact hc) (by omega)
      have e5 := ix_kind (h := h) ok hr2
      rw [List.drop_eq_getElem_cons (by omega), show s[at_ + i]'(by omega) = c by rw [List.getElem?_eq_getElem (by omega)] at hc; exact Option.some.inj hc] at hf
      refine ⟨_, [some T.enc, some (.str s), some (.int (at_ : Nat)), some (.int (T.go r c : Nat)), some (oD (if 0 ≤ T.kind (T.go r c) then some (T.kind (T.go r c), at_ + i + 1) else f)), some (.int ((at_ : Nat) + (i : Nat)))], h, rfl, ?_, T.go r c, _, _, rfl, rfl, hr2, hf⟩
      unfold b__law_first_1
      by_cases q : 0 ≤ T.kind (T.go r c)
      · simp [gSet, t0, t1, t2, e1, e2, e3, e4, e5, q, oD]
      · simp [gSet, t0, t1, t2, e1, e2, e3, e4, e5, q])
  rw [intsFrom_len, List.drop_eq_nil_of_le (by omega)] at hf
  refine callC_same rfl ?_
  unfold m__law_first
  simp [bl, show -10000000 ≤ (at_ : Int) by omega, show (at_ : Int) ≤ 10000000 by omega, show -10000000 ≤ (s.length : Int) by omega, show (s.length : Int) ≤ 10000000 by omega, show s.length ≤ 10000000 by omega, show at_ ≤ 10000000 by omega, e1, show f = T.first s at_ from hf]
end NR

set_option Elab.async false
set_option linter.all false
set_option maxRecDepth 100000
set_option maxHeartbeats 4000000
/-! What is equal: plain trees up to the truths' numbers. -/
namespace NR
open PySem PySem.Spec PyProof.Rows L2
mutual
def D.nm : D → D
  | .bl b => .int (if b then 1 else 0)
  | .tup l => .tup (D.nmL l)
  | .fl l => .fl (D.nmL l)
  | d => d
def D.nmL : List D → List D
  | [] => []
  | d :: l => D.nm d :: D.nmL l
end
theorem nmL_map : ∀ l : List D, D.nmL l = l.map D.nm
  | [] => rfl
  | d :: l => by simp [D.nmL, nmL_map l]
@[simp] theorem nm_non : D.nm .non = .non := rfl
@[simp] theorem nm_int {i : Int} : D.nm (.int i) = .int i := rfl
@[simp] theorem nm_str {i : List Nat} : D.nm (.str i) = .str i := rfl
@[simp] theorem nm_bl {b : Bool} : D.nm (.bl b) = .int (if b then 1 else 0) := rfl
@[simp] theorem nm_tup {l : List D} : D.nm (.tup l) = .tup (l.map D.nm) := by rw [← nmL_map]; rfl
@[simp] theorem nm_fl {l : List D} : D.nm (.fl l) = .fl (l.map D.nm) := by rw [← nmL_map]; rfl
/-- a plain tree -/
def D.pl : Nat → D → Bool
  | 0, _ => false
  | k + 1, d => match d with
    | .non => true
    | .bl _ => true
    | .int _ => true
    | .str _ => true
    | .tup l => l.all (D.pl k)
    | .fl l => l.all (D.pl k)
    | _ => false
theorem pl_mono : ∀ {k : Nat} {d : D}, d.pl k = true → d.pl (k + 1) = true := by
  intro k
  induction k with
  | zero => intro d e; simp [D.pl] at e
  | succ k ih =>
    intro d e
    cases d with
    | tup l =>
      simp only [D.pl, List.all_eq_true] at e ⊢
      exact fun x hx => ih (e x hx)
    | fl l =>
      simp only [D.pl, List.all_eq_true] at e ⊢
      exact fun x hx => ih (e x hx)
    | non => rfl
    | bl b => rfl
    | int i => rfl
    | str s => rfl
    | _ => simp [D.pl] at e
theorem pl_le {j k : Nat} (l : j ≤ k) {d : D} (h : d.pl j = true) : d.pl k = true := by
  induction l with
  | refl => exact h
  | step _ ih => exact pl_mono ih
theorem allM_all {A : Type} {f : D → Option A} : ∀ {l : List D}, (∀ d ∈ l, ∃ a, f d = some a) → ∃ as, allM f l = some as
  | [], _ => ⟨[], rfl⟩
  | d :: l, h => by
    obtain ⟨a, ea⟩ := h d List.mem_cons_self
    obtain ⟨as, eas⟩ := allM_all fun x hx => h x (List.mem_cons_of_mem _ hx)
    exact ⟨a :: as, by unfold allM; rw [ea, eas]⟩
theorem pl_py {h : IH} : ∀ {k : Nat} {d : D}, d.pl k = true → ∃ p, D.py h k d = some p := by
  intro k
  induction k with
  | zero => intro d e; simp [D.pl] at e
  | succ k ih =>
    intro d e
    cases d with
    | non => exact ⟨_, rfl⟩
    | bl b => exact ⟨_, rfl⟩
    | int i => exact ⟨_, rfl⟩
    | str s => exact ⟨_, rfl⟩
    | tup l =>
      simp only [D.pl, List.all_eq_true] at e
      obtain ⟨ps, hps⟩ := allM_all fun d hd => ih (e d hd)
      exact ⟨.tuple ps, by simp [D.py, hps]⟩
    | fl l =>
      simp only [D.pl, List.all_eq_true] at e
      obtain ⟨ps, hps⟩ := allM_all fun d hd => ih (e d hd)
      exact ⟨.list ps, by simp [D.py, hps]⟩
    | _ => simp [D.pl] at e
theorem pl_eqv {h : IH} : ∀ {k k' : Nat} {x y : D} {p q : PyData}, x.pl k = true → y.pl k' = true → D.py h k x = some p → D.py h k' y = some q → (PyData.eqv p q = true ↔ x.nm = y.nm) := by
  intro k
  induction k with
  | zero => intro k' x y p q e; simp [D.pl] at e
  | succ k ih =>
    intro k'
    cases k' with
    | zero => intro x y p q _ e; simp [D.pl] at e
    | succ k' =>
    have all : ∀ (l m : List D) (ps qs : List PyData), l.all (D.pl k) = true → m.all (D.pl k') = true → allM (D.py h k) l = some ps → allM (D.py h k') m = some qs → (PyData.eqvAll ps qs = true ↔ l.map D.nm = m.map D.nm) := by
      intro l
      induction l with
      | nil =>
        intro m ps qs _ _ e1 e2
        simp only [allM, Option.some.injEq] at e1
        subst e1
        cases m with
        | nil => simp only [allM, Option.some.injEq] at e2; subst e2; simp [PyData.eqvAll]
        | cons d m => obtain ⟨a, as, _, _, rfl⟩ := allM_cons e2; simp [PyData.eqvAll]
      | cons d l il =>
        intro m ps qs a1 a2 e1 e2
        obtain ⟨p, ps', b1, b2, rfl⟩ := allM_cons e1
        simp only [List.all_cons, Bool.and_eq_true] at a1
        cases m with
        | nil => simp only [allM, Option.some.injEq] at e2; subst e2; simp [PyData.eqvAll]
        | cons d' m =>
          obtain ⟨q, qs', c1, c2, rfl⟩ := allM_cons e2
          simp only [List.all_cons, Bool.and_eq_true] at a2
          simp [PyData.eqvAll, ih a1.1 a2.1 b1 c1, il m ps' qs' a1.2 a2.2 b2 c2]
    intro x y p q nx ny ex ey
    have bi : ∀ (b : Bool) (j : Int), ((if b then (1 : Int) else 0) == j) = decide ((if b then (1 : Int) else 0) = j) := fun b j => by cases b <;> rfl
    cases x with
    | non => cases y with
      | non => simp [D.py] at ex ey; subst ex ey; simp [PyData.eqv]
      | bl j => simp [D.py] at ex ey; subst ex ey; simp [PyData.eqv]
      | int j => simp [D.py] at ex ey; subst ex ey; simp [PyData.eqv]
      | str t => simp [D.py] at ex ey; subst ex ey; simp [PyData.eqv]
      | tup m => simp only [D.py, Option.map_eq_some_iff] at ex ey; obtain ⟨qs, _, rfl⟩ := ey; simp at ex; subst ex; simp [PyData.eqv]
      | fl m => simp only [D.py, Option.map_eq_some_iff] at ex ey; obtain ⟨qs, _, rfl⟩ := ey; simp at ex; subst ex; simp [PyData.eqv]
      | _ => simp [D.pl] at ny
    | bl i => cases y with
      | non => simp [D.py] at ex ey; subst ex ey; simp [PyData.eqv]
      | bl j => simp [D.py] at ex ey; subst ex ey; cases i <;> cases j <;> simp [PyData.eqv]
      | int j => simp [D.py] at ex ey; subst ex ey; simp [PyData.eqv]
      | str t => simp [D.py] at ex ey; subst ex ey; simp [PyData.eqv]
      | tup m => simp only [D.py, Option.map_eq_some_iff] at ex ey; obtain ⟨qs, _, rfl⟩ := ey; simp at ex; subst ex; simp [PyData.eqv]
      | fl m => simp only [D.py, Option.map_eq_some_iff] at ex ey; obtain ⟨qs, _, rfl⟩ := ey; simp at ex; subst ex; simp [PyData.eqv]
      | _ => simp [D.pl] at ny
    | int i => cases y with
      | non => simp [D.py] at ex ey; subst ex ey; simp [PyData.eqv]
      | bl j => simp [D.py] at ex ey; subst ex ey; simp [PyData.eqv]
      | int j => simp [D.py] at ex ey; subst ex ey; simp [PyData.eqv]
      | str t => simp [D.py] at ex ey; subst ex ey; simp [PyData.eqv]
      | tup m => simp only [D.py, Option.map_eq_some_iff] at ex ey; obtain ⟨qs, _, rfl⟩ := ey; simp at ex; subst ex; simp [PyData.eqv]
      | fl m => simp only [D.py, Option.map_eq_some_iff] at ex ey; obtain ⟨qs, _, rfl⟩ := ey; simp at ex; subst ex; simp [PyData.eqv]
      | _ => simp [D.pl] at ny
    | str s => cases y with
      | non => simp [D.py] at ex ey; subst ex ey; simp [PyData.eqv]
      | bl j => simp [D.py] at ex ey; subst ex ey; simp [PyData.eqv]
      | int j => simp [D.py] at ex ey; subst ex ey; simp [PyData.eqv]
      | str t =>
        simp [D.py] at ex ey; subst ex ey
        rw [show PyData.eqv (.str (strV s)) (.str (strV t)) = (strV s == strV t) by simp [PyData.eqv], strV_eq]
        simp
      | tup m => simp only [D.py, Option.map_eq_some_iff] at ex ey; obtain ⟨qs, _, rfl⟩ := ey; simp at ex; subst ex; simp [PyData.eqv]
      | fl m => simp only [D.py, Option.map_eq_some_iff] at ex ey; obtain ⟨qs, _, rfl⟩ := ey; simp at ex; subst ex; simp [PyData.eqv]
      | _ => simp [D.pl] at ny
    | tup l =>
      simp only [D.py, Option.map_eq_some_iff] at ex
      obtain ⟨ps, e1, rfl⟩ := ex
      cases y with
      | non => simp [D.py] at ey; subst ey; simp [PyData.eqv]
      | bl j => simp [D.py] at ey; subst ey; simp [PyData.eqv]
      | int j => simp [D.py] at ey; subst ey; simp [PyData.eqv]
      | str t => simp [D.py] at ey; subst ey; simp [PyData.eqv]
      | tup m =>
        simp only [D.py, Option.map_eq_some_iff] at ey; obtain ⟨qs, e2, rfl⟩ := ey
        have := all l m ps qs (by simpa [D.pl] using nx) (by simpa [D.pl] using ny) e1 e2
        simp [PyData.eqv, this]
      | fl m => simp only [D.py, Option.map_eq_some_iff] at ey; obtain ⟨qs, _, rfl⟩ := ey; simp [PyData.eqv]
      | _ => simp [D.pl] at ny
    | fl l =>
      simp only [D.py, Option.map_eq_some_iff] at ex
      obtain ⟨ps, e1, rfl⟩ := ex
      cases y with
      | non => simp [D.py] at ey; subst ey; simp [PyData.eqv]
      | bl j => simp [D.py] at ey; subst ey; simp [PyData.eqv]
      | int j => simp [D.py] at ey; subst ey; simp [PyData.eqv]
      | str t => simp [D.py] at ey; subst ey; simp [PyData.eqv]
      | fl m =>
        simp only [D.py, Option.map_eq_some_iff] at ey; obtain ⟨qs, e2, rfl⟩ := ey
        have := all l m ps qs (by simpa [D.pl] using nx) (by simpa [D.pl] using ny) e1 e2
        simp [PyData.eqv, this]
      | tup m => simp only [D.py, Option.map_eq_some_iff] at ey; obtain ⟨qs, _, rfl⟩ := ey; simp [PyData.eqv]
      | _ => simp [D.pl] at ny
    | _ => simp [D.pl] at nx
open Classical in
theorem dEq_pl {neg : Bool} {h : IH} {x y : D} (nx : x.pl 50 = true) (ny : y.pl 50 = true) : dEq neg x y h = .ok (.bl (if neg then !decide (x.nm = y.nm) else decide (x.nm = y.nm))) h := by
  obtain ⟨p, hp⟩ := pl_py (h := h) nx
  obtain ⟨q, hq⟩ := pl_py (h := h) ny
  unfold dEq
  rw [hp, hq]
  dsimp only
  have : PyData.eqv p q = decide (x.nm = y.nm) := by
    rw [Bool.eq_iff_iff, pl_eqv nx ny hp hq]
    simp
  rw [this]
/-- a list in the heap is told as its items -/
theorem py_ref {h : IH} {n : Nat} {xs : List D} (e : h[n]? = some (.lst xs)) {k : Nat} : D.py h k (.ref n) = D.py h k (.fl xs) := by
  cases k with
  | zero => rfl
  | succ k =>
    show (match h[n]? with | some (.lst xs) => _ | some (.frz xs) => _ | _ => _) = _
    rw [e]
    rfl
theorem dEq_ref {neg : Bool} {h : IH} {n : Nat} {xs : List D} {y : D} (e : h[n]? = some (.lst xs)) : dEq neg (.ref n) y h = dEq neg (.fl xs) y h := by
  unfold dEq
  rw [py_ref e]
theorem dEq_ref2 {neg : Bool} {h : IH} {n : Nat} {xs : List D} {x : D} (e : h[n]? = some (.lst xs)) : dEq neg x (.ref n) h = dEq neg x (.fl xs) h := by
  unfold dEq
  rw [py_ref e]
open Classical in
theorem dIn_pl {neg : Bool} {h : IH} {x y : D} {ys : List D} (e : seqOf h y = some ys) (nx : x.pl 50 = true) (ny : ∀ d ∈ ys, D.pl 49 d = true) : dIn neg x y h = .ok (.bl (if neg then !decide (x.nm ∈ ys.map D.nm) else decide (x.nm ∈ ys.map D.nm))) h := by
  obtain ⟨p, hp⟩ := pl_py (h := h) nx
  have main : ∀ {ys : List D}, (∀ d ∈ ys, D.pl 49 d = true) → ∃ qs, allM (D.py h 49) ys = some qs ∧ (qs.any fun z => PyData.eqv z p) = decide (x.nm ∈ ys.map D.nm) := by
    intro ys
    induction ys with
    | nil => exact fun _ => ⟨[], rfl, by simp⟩
    | cons d ys ih =>
      intro hy
      obtain ⟨qs, e1, e2⟩ := ih fun z hz => hy z (List.mem_cons_of_mem _ hz)
      obtain ⟨q, hq⟩ := pl_py (h := h) (hy d List.mem_cons_self)
      refine ⟨q :: qs, by unfold allM; rw [hq, e1], ?_⟩
      rw [List.any_cons, e2, Bool.eq_iff_iff]
      simp [pl_eqv (hy d List.mem_cons_self) nx hq hp]
      simp [eq_comm]
  obtain ⟨qs, e1, e2⟩ := main ny
  have e3 : (seqOf h y).bind (allM (D.py h 49)) = some qs := by rw [e]; exact e1
  have : dIn neg x y h = match D.py h 50 x, (seqOf h y).bind (allM (D.py h 49)) with
    | some a, some bs => .ok (.bl (if neg then !(bs.any fun z => PyData.eqv z a) else bs.any fun z => PyData.eqv z a)) h
    | _, _ => .no := by
    unfold dIn
    split
    · simp [seqOf] at e
    · rfl
  rw [this, hp, e3]
  dsimp only
  rw [e2]
theorem bTupleX_ref {h : IH} {n : Nat} {xs : List D} (e : h[n]? = some (.lst xs)) : bTupleX [.ref n] h = .ok (.tup xs) h := by
  show bTuple [.ref n] h = _
  unfold bTuple
  dsimp only
  rw [lstOf_ref e]
@[simp] theorem pl_non {k : Nat} : D.pl (k + 1) .non = true := rfl
@[simp] theorem pl_int {k : Nat} {i : Int} : D.pl (k + 1) (.int i) = true := rfl
@[simp] theorem pl_bl {k : Nat} {i : Bool} : D.pl (k + 1) (.bl i) = true := rfl
@[simp] theorem pl_str {k : Nat} {i : List Nat} : D.pl (k + 1) (.str i) = true := rfl
theorem pl_fl {k : Nat} {l : List D} : D.pl (k + 1) (.fl l) = l.all (D.pl k) := rfl
theorem pl_tup {k : Nat} {l : List D} : D.pl (k + 1) (.tup l) = l.all (D.pl k) := rfl
theorem pl_all {k : Nat} {l : List D} (h : ∀ d ∈ l, D.pl k d = true) : l.all (D.pl k) = true := List.all_eq_true.mpr h
theorem pl_ints {k : Nat} {l : List Int} : (l.map D.int).all (D.pl (k + 1)) = true := pl_all fun d hd => by
  obtain ⟨x, _, rfl⟩ := List.mem_map.mp hd
  rfl
theorem dEq_self {d : D} {h : IH} {neg : Bool} (p : d.pl 50 = true) : dEq neg d d h = .ok (.bl (!neg)) h := by
  rw [dEq_pl p p]
  cases neg <;> simp
@[simp] theorem ap_mFz_dict0 {env : EV} {h : IH} : mFz (mDict []) env h = .ok (.fd [] []) h := by
  have e : mDict [] env h = .ok (.ref h.length) (h ++ [.dk []]) := by
    simp [mDict, mPr, R.bind, keyPs, dkAt]
  rw [ap_mFz0, e]
  unfold fzR
  simp
/-! what is known of a value -/
def D.kn : D → Bool
  | .ref _ => false
  | .exc _ => false
  | _ => true
def D.isI : D → Bool
  | .int _ => true
  | _ => false
def D.kn2 : D → Bool
  | .tup l => l.all D.kn
  | d => d.kn
theorem isT_int_kn {d : D} {h : IH} (k : d.kn = true) : isT "int" h d = some (d.isI || (match d with | .bl _ => true | _ => false)) := by
  cases d with
  | ref n => cases k
  | exc n => cases k
  | _ => simp [D.isI]
theorem isT_bool_kn {d : D} {h : IH} (k : d.kn = true) : isT "bool" h d = some (match d with | .bl _ => true | _ => false) := by
  cases d with
  | ref n => cases k
  | exc n => cases k
  | _ => simp
theorem isT_tuple_kn {d : D} {h : IH} (k : d.kn = true) : isT "tuple" h d = some (match d with | .tup _ => true | _ => false) := by
  cases d with
  | ref n => cases k
  | exc n => cases k
  | _ => simp
theorem sIx_neg {n d k : Nat} (h0 : 1 ≤ k) (h1 : k ≤ n) : HT.sIx n d (some (-(k : Int))) = n - k := by
  show (if -(k : Int) < 0 then (-(k : Int) + (n : Int)).toNat else min (-(k : Int)).toNat n) = _
  rw [if_pos (by omega)]
  omega
theorem cutD_neg {xs : List D} {k : Nat} (h0 : 1 ≤ k) (h1 : k ≤ xs.length) : cutD xs none (some (-(k : Int))) = xs.take (xs.length - k) := by
  show (xs.drop (HT.sIx xs.length 0 none)).take (HT.sIx xs.length xs.length (some (-(k : Int))) - HT.sIx xs.length 0 none) = _
  rw [sIx_neg h0 h1]
  simp [HT.sIx]
theorem cutN_neg {xs : List Nat} {k : Nat} (h0 : 1 ≤ k) (h1 : k ≤ xs.length) : cutN xs none (some (-(k : Int))) = xs.take (xs.length - k) := by
  show (xs.drop (HT.sIx xs.length 0 none)).take (HT.sIx xs.length xs.length (some (-(k : Int))) - HT.sIx xs.length 0 none) = _
  rw [sIx_neg h0 h1]
  simp [HT.sIx]
end NR

set_option Elab.async false
set_option linter.all false
set_option maxRecDepth 100000
set_option maxHeartbeats 4000000
namespace NR
open PySem PySem.Spec PyProof.Rows L2
/-! ### a row of numbers -/
theorem numbers_call {xs : List Int} (h : IH) (l : xs.length ≤ 1000) : callC 2 m__law_numbers [.tup (xs.map D.int), .int (xs.length : Nat)] h = .ok (.bl true) h := by
  obtain ⟨_, _, e1, x, rfl, rfl⟩ := for_nx (s := b__law_numbers_1) (gg := gSet 2) (ds := xs.map D.int) (env := [some (.tup (xs.map D.int)), some (.int (xs.length : Nat)), none]) (h := h)
    (fun i env h2 => ∃ x, env = [some (.tup (xs.map D.int)), some (.int (xs.length : Nat)), x] ∧ h = h2) ⟨none, rfl, rfl⟩ (by
      rintro i d env _ hd ⟨x, rfl, rfl⟩
      obtain ⟨y, _, rfl⟩ := List.mem_map.mp (List.mem_of_getElem? hd)
      refine ⟨_, [some (.tup (xs.map D.int)), some (.int (xs.length : Nat)), some (.int y)], h, rfl, ?_, _, rfl, rfl⟩
      unfold b__law_numbers_1
      simp [gSet])
  refine callC_same rfl ?_
  unfold m__law_numbers
  simp [e1]
/-- whether it is a tuple of so many numbers -/
def D.isN (n : Nat) : D → Bool
  | .tup l => decide (l.length = n) && l.all D.isI
  | _ => false
theorem law_numbers_any {x : D} {n : Nat} (kx : x.kn2 = true) (xl : ∀ l, x = .tup l → l.length ≤ 9000000) (h : IH) : callC 2 m__law_numbers [x, .int (n : Nat)] h = .ok (.bl (x.isN n)) h := by
  have hk : x.kn = true := by
    cases x with
    | tup l => rfl
    | _ => exact kx
  refine callC_same rfl ?_
  have t1 := isT_tuple_kn (h := h) hk
  cases x with
  | tup l =>
    have ld : ∀ d ∈ l, d.kn = true := fun d hd => List.all_eq_true.mp kx d hd
    by_cases q : l.length = n
    · have main := for_rt (s := b__law_numbers_1) (gg := gSet 2) (ds := l) (env := [some (.tup l), some (.int (n : Nat)), none]) (h := h)
        (fun i env h2 => ∃ y, env = [some (.tup l), some (.int (n : Nat)), y] ∧ h = h2 ∧ ∀ j < i, ∀ d, l[j]? = some d → d.isI = true)
        (fun x h2 => x = .bl false ∧ h = h2 ∧ ∃ d ∈ l, d.isI = false) ⟨none, rfl, rfl, fun j hj => absurd hj (Nat.not_lt_zero _)⟩ (by
          rintro i d env _ hd ⟨y, rfl, rfl, al⟩
          have dk := ld d (List.mem_of_getElem? hd)
          have i1 := isT_int_kn (h := h) dk
          have i2 := isT_bool_kn (h := h) dk
          refine ⟨_, rfl, ?_⟩
          cases e : d.isI with
          | false =>
            refine .inr ⟨.bl false, h, ?_, rfl, rfl, d, List.mem_of_getElem? hd, e⟩
            unfold b__law_numbers_1
            rw [e] at i1
            simp [gSet, i1, i2]
            cases d <;> simp_all [D.isI]
          | true =>
            refine .inl ⟨[some (.tup l), some (.int (n : Nat)), some d], h, ?_, _, rfl, rfl, fun j hj d' e' => ?_⟩
            · unfold b__law_numbers_1
              rw [e] at i1
              simp [gSet, i1, i2]
              cases d <;> simp_all [D.isI]
            · by_cases z : j = i
              · subst z; rw [hd] at e'; cases e'; exact e
              · exact al j (by omega) d' e')
      unfold m__law_numbers
      rcases main with ⟨_, _, e, y, rfl, rfl, al⟩ | ⟨x, _, e, rfl, rfl, d, hd, ed⟩
      · have : l.all D.isI = true := List.all_eq_true.mpr fun d hd => by
          obtain ⟨j, hj⟩ := List.mem_iff_getElem?.mp hd
          exact al j (List.getElem?_eq_some_iff.mp hj).1 d hj
        simp [e, q, D.isN]
        intro x hx
        exact List.all_eq_true.mp this x hx
      · simp [e, q, D.isN]
        exact ⟨d, hd, ed⟩
    · unfold m__law_numbers
      have q' : ¬ ((l.length : Int) = (n : Int)) := by omega
      simp [D.isN, q, q']
  | ref n => cases hk
  | exc n => cases hk
  | _ => unfold m__law_numbers; simp [D.isN]
end NR

set_option Elab.async false
set_option linter.all false
set_option maxRecDepth 100000
set_option maxHeartbeats 4000000
namespace NR
open PySem PySem.Spec PyProof.Rows L2
theorem text_call {b : Nat} {z c : Cell} {g : IH} {t : List Nat} (tg : Tgn t) (hp : Pn (b + 250) c) :
    ∃ s c', callC 2 m__law_text [.ref 1, .str t] (z :: c :: g) = .ok (.str s) (z :: c' :: g) ∧ s.length ≤ 240 ∧ (∀ x ∈ s, x ∈ t) ∧ Pn b c' := by
  have t1 := tg.l1
  have t2 := tg.l2
  obtain ⟨u, c1, e1, u1, p1⟩ := draw_call (b := b + 249) (z := z) (g := g) (m := 25) (hp.mono (by omega)) (by omega) (by omega)
  obtain ⟨v, c2, e2, v2, p2⟩ := draw_call (b := b + 248) (z := z) (g := g) (m := 6) (p1.mono (by omega)) (by omega) (by omega)
  obtain ⟨many, c3, m3, p3, e3⟩ : ∃ (many : Nat) (c3 : Cell), many ≤ 240 ∧ Pn (b + 240) c3 ∧ (msIf (mTb (mOp (dEq false) (mCall 2 (m__law_draw) (mCons (mVar 0) (mCons (mC (.int 6)) (mNil)))) (mC (.int 0)))) (msSet 2 (mCall 2 (m__law_draw) (mCons (mVar 0) (mCons (mC (.int 241)) (mNil))))) (msNil)) [some (.ref 1), some (.str t), some (.int (u : Nat)), none] (z :: c1 :: g) = .nx [some (.ref 1), some (.str t), some (.int (many : Nat)), none] (z :: c3 :: g) := by
    by_cases q : v = 0
    · subst q
      obtain ⟨w, c4, e4, w4, p4⟩ := draw_call (b := b + 247) (z := z) (g := g) (m := 241) (p2.mono (by omega)) (by omega) (by omega)
      exact ⟨w, c4, by omega, p4.mono (by omega), by simp [e2, e4]⟩
    · exact ⟨u, c2, by omega, p2.mono (by omega), by simp [e2, q]⟩
  obtain ⟨ys, c4, e4, yl, yp, p4⟩ := lcF_pen (Pn := Pn) (b := b) (K := 1) (z := z) (c0 := c3) (g := g) (ds := intsFrom 0 many) (env := [some (.ref 1), some (.str t), some (.int (many : Nat)), none]) (it := iRange1 (mCons (mVar 2) (mNil))) (gg := gSet 3) (ws := [3]) (m := e__law_text_1) Pn_lo
    (fun _ y => ∃ k, k ∈ t ∧ y = .str [k]) (by simp [show -10000000 ≤ (many : Int) by omega, show (many : Int) ≤ 10000000 by omega]) (by simp; omega) (p3.mono (by simp; omega)) (by rintro _ y k ⟨x, _, rfl⟩; rfl) (fun j d _ => ⟨_, rfl, fun b c g hb => by
      have hl : ∀ h : IH, bLen [.str t] h = .ok (.int (t.length : Nat)) h := fun h => bLen_str (by omega)
      obtain ⟨w, c1, e1, w1, q1⟩ := draw_call (b := b) (z := z) (g := g) (m := (t.length : Nat)) hb (by omega) (by omega)
      have hw : w < t.length := by omega
      have ix : ∀ h : IH, dIx (.str t) (.int (w : Nat)) h = .ok (.str [t[w]]) h := fun h => dIx_str (by omega) (by simp [hw]) (by omega)
      refine ⟨_, c1, ?_, q1, t[w], List.getElem_mem hw, rfl⟩
      unfold e__law_text_1
      simp [wipeE, gSet, hl, e1, ix]⟩)
  obtain ⟨s, rfl, sb⟩ := sgs_of (t := t) fun y hy => by
    obtain ⟨j, hj⟩ := List.mem_iff_getElem?.mp hy
    exact yp j y hj
  have sl : s.length = many := by simpa [sgD] using yl
  refine ⟨s, c4, callC_pen0 rfl ?_, by omega, sb, p4⟩
  unfold m__law_text
  rw [ap_fnM]
  simp only [ap_msCons, ap_msSet, ap_mCall, ap_mCons, ap_mNil, ap_mVar, ap_mC, bind_ok, bindS_ok, then_nx, List.map_cons, List.map_nil, List.length_cons, List.length_nil, List.cons_append, List.nil_append, List.replicate, List.set_cons_zero, List.set_cons_succ, List.getElem?_cons_zero, List.getElem?_cons_succ, e1, Nat.reduceAdd, Nat.reduceSub]
  rw [e3]
  simp [e4, join_sg (show s.length ≤ 10000000 by omega)]
end NR

set_option Elab.async false
set_option linter.all false
set_option maxRecDepth 100000
set_option maxHeartbeats 4000000
namespace NR
open PySem PySem.Spec PyProof.Rows L2
theorem rest_len {t : List Nat} (tg : Tgn t) : 89 ≤ (allSigns.filter fun x => !decide (x ∈ t)).length := by
  have h1 : (allSigns.filter fun x => decide (x ∈ t)).length ≤ t.length := by
    have nd : (allSigns.filter fun x => decide (x ∈ t)).Nodup := allSigns_nodup.sublist List.filter_sublist
    have : ∀ (l m : List Nat), l.Nodup → (∀ x ∈ l, x ∈ m) → l.length ≤ m.length := by
      intro l
      induction l with
      | nil => intro m _ _; simp
      | cons a l ih =>
        intro m nd hs
        have ha := hs a List.mem_cons_self
        have := ih (m.erase a) (List.nodup_cons.mp nd).2 fun x hx => by
          have ne : x ≠ a := fun z => (List.nodup_cons.mp nd).1 (z ▸ hx)
          exact (List.mem_erase_of_ne ne).mpr (hs x (List.mem_cons_of_mem _ hx))
        have h2 := List.length_erase_of_mem ha
        have h3 := List.length_pos_of_mem ha
        simp
        omega
    exact this _ _ nd fun x hx => by simpa using (List.mem_filter.mp hx).2
  have h2 : (allSigns.filter fun x => decide (x ∈ t)).length + (allSigns.filter fun x => !decide (x ∈ t)).length = 95 := by
    rw [← List.countP_eq_length_filter, ← List.countP_eq_length_filter]
    have := List.length_eq_countP_add_countP (fun x => decide (x ∈ t)) (l := allSigns)
    rw [allSigns_len] at this
    simpa using this.symm
  have := tg.l2
  omega
end NR

set_option Elab.async false
set_option linter.all false
set_option maxRecDepth 100000
set_option maxHeartbeats 4000000
namespace NR
open PySem PySem.Spec PyProof.Rows L2
/-! ### cuts -/
theorem pieceGo_end {T : Tb} : ∀ {s : List Nat} {r p : Nat} {f : Option (Int × Nat)} {k : Int} {e : Nat}, T.pieceGo r p f s = some (k, e) → f = some (k, e) ∨ (p < e ∧ e ≤ p + s.length ∧ 0 ≤ k)
  | [], _, _, _, _, _, h => .inl h
  | c :: s, r, p, f, k, e, h => by
    unfold Tb.pieceGo at h
    rcases pieceGo_end h with h | ⟨h1, h2, h3⟩
    · split at h
      · cases h
        exact .inr ⟨by omega, by simp, by assumption⟩
      · exact .inl h
    · exact .inr ⟨by omega, by simp; omega, h3⟩
theorem first_end {T : Tb} {s : List Nat} {p : Nat} {k : Int} {e : Nat} (h : T.first s p = some (k, e)) (hp : p ≤ s.length) : p < e ∧ e ≤ s.length ∧ 0 ≤ k := by
  unfold Tb.first at h
  rcases pieceGo_end h with h | ⟨h1, h2, h3⟩
  · cases h
  · rw [List.length_drop] at h2
    exact ⟨h1, by omega, h3⟩
theorem first_over {T : Tb} {s : List Nat} {p : Nat} (hp : s.length ≤ p) : T.first s p = none := by
  unfold Tb.first
  rw [List.drop_eq_nil_of_le hp]
  rfl
def Tb.cutGo (T : Tb) (s : List Nat) : Nat → Nat → List (Int × Nat × Nat) × Nat
  | 0, p => ([], p)
  | n + 1, p => match T.first s p with
    | none => ([], p)
    | some (k, e) => ((k, p, e) :: (T.cutGo s n e).1, (T.cutGo s n e).2)
def Tb.cutFrom (T : Tb) (s : List Nat) (p : Nat) : List (Int × Nat × Nat) × Nat := T.cutGo s (s.length - p) p
theorem cutGo_more {T : Tb} {s : List Nat} : ∀ {n m p : Nat}, s.length - p ≤ n → s.length - p ≤ m → p ≤ s.length → T.cutGo s n p = T.cutGo s m p
  | 0, 0, _, _, _, _ => rfl
  | 0, m + 1, p, h1, h2, h3 => by
    unfold Tb.cutGo
    rw [first_over (by omega)]
  | n + 1, 0, p, h1, h2, h3 => by
    unfold Tb.cutGo
    rw [first_over (by omega)]
  | n + 1, m + 1, p, h1, h2, h3 => by
    unfold Tb.cutGo
    cases e : T.first s p with
    | none => rfl
    | some q =>
      obtain ⟨k, e'⟩ := q
      obtain ⟨a1, a2, _⟩ := first_end e h3
      dsimp only
      rw [cutGo_more (n := n) (m := m) (p := e') (by omega) (by omega) a2]
theorem cutFrom_none {T : Tb} {s : List Nat} {p : Nat} (h : T.first s p = none) : T.cutFrom s p = ([], p) := by
  unfold Tb.cutFrom
  cases s.length - p with
  | zero => rfl
  | succ n => unfold Tb.cutGo; rw [h]
theorem cutFrom_some {T : Tb} {s : List Nat} {p : Nat} {k : Int} {e : Nat} (h : T.first s p = some (k, e)) (hp : p ≤ s.length) : T.cutFrom s p = ((k, p, e) :: (T.cutFrom s e).1, (T.cutFrom s e).2) := by
  obtain ⟨a1, a2, _⟩ := first_end h hp
  unfold Tb.cutFrom
  rw [show s.length - p = (s.length - p - 1) + 1 by omega]
  conv => lhs; unfold Tb.cutGo
  rw [h]
  dsimp only
  rw [cutGo_more (n := s.length - p - 1) (m := s.length - e) (by omega) (by omega) a2]
theorem cutFrom_len {T : Tb} {s : List Nat} : ∀ {n p : Nat}, s.length - p ≤ n → p ≤ s.length → (T.cutFrom s p).1.length ≤ s.length - p ∧ (T.cutFrom s p).2 ≤ s.length
  | 0, p, h1, h2 => by
    rw [cutFrom_none (first_over (by omega))]
    simp [h2]
  | n + 1, p, h1, h2 => by
    cases e : T.first s p with
    | none => rw [cutFrom_none e]; simp [h2]
    | some q =>
      obtain ⟨k, e'⟩ := q
      obtain ⟨a1, a2, _⟩ := first_end e h2
      rw [cutFrom_some e h2]
      have := cutFrom_len (T := T) (s := s) (n := n) (p := e') (by omega) a2
      simp
      omega
def pcD (q : Int × Nat × Nat) : D := .tup [.int q.1, .int (q.2.1 : Nat), .int (q.2.2 : Nat)]
@[simp] theorem lo_pcD {n : Nat} {q : Int × Nat × Nat} : D.lo n (pcD q) = true := by simp [pcD]
@[simp] theorem oD_none : oD none = .non := rfl
@[simp] theorem oD_some {k : Int} {e : Nat} : oD (some (k, e)) = .tup [.int k, .int (e : Nat)] := rfl
theorem lawcut_call {T : Tb} (ok : T.Ok) {s : List Nat} (sl : s.length ≤ 1000) (sb : ∀ x ∈ s, x ∈ T.sig) (h : IH) : callC 2 m__law_cut [T.enc, .str s] h = .ok (.tup [.fl ((T.cutFrom s 0).1.map pcD), .int ((T.cutFrom s 0).2 : Nat)]) h := by
  obtain ⟨_, _, _, e6, ⟨acc, p, rfl, rfl, hp, hc, hm⟩, e7⟩ := while_nx (c := t__law_cut_1) (s := b__law_cut_2) (fun m env h2 => ∃ (acc : List (Int × Nat × Nat)) (p : Nat), env = [some T.enc, some (.str s), some (.ref h.length), some (.int (p : Nat)), some (oD (T.first s p))] ∧ h2 = h ++ [Cell.lst (acc.map pcD)] ∧ p ≤ s.length ∧ (acc ++ (T.cutFrom s p).1, (T.cutFrom s p).2) = T.cutFrom s 0 ∧ m = s.length - p) s.length
    [some T.enc, some (.str s), some (.ref h.length), some (.int 0), some (oD (T.first s 0))] (h ++ [Cell.lst []]) ⟨[], 0, rfl, rfl, by omega, rfl, rfl⟩ (by
      rintro m env _ ⟨acc, p, rfl, rfl, hp, hc, rfl⟩
      cases e : T.first s p with
      | none =>
        right
        unfold t__law_cut_1
        simp [dIsN]
      | some q =>
        obtain ⟨k, e'⟩ := q
        obtain ⟨a1, a2, _⟩ := first_end e hp
        left
        have al : acc.length ≤ 1000 := by
          have := congrArg (fun z => z.1.length) hc
          have h2 := (cutFrom_len (T := T) (s := s) (n := s.length) (p := 0) (by omega) (by omega)).1
          simp at this
          omega
        have ty : tyD "list" (h ++ [Cell.lst (acc.map pcD)]) (.ref h.length) = true := tyD_ref (xs := acc.map pcD) (by simp)
        have ap : fAppend (.ref h.length) [.tup [.int k, .int (p : Nat), .int (e' : Nat)]] (h ++ [Cell.lst (acc.map pcD)]) = .ok .non (h ++ [Cell.lst ((acc ++ [(k, p, e')]).map pcD)]) := by
          rw [append_at (xs := acc.map pcD) (by simp) (by simp; omega)]
          simp [pcD]
        have i0 : ∀ h, dIx (.tup [.int k, .int (e' : Nat)]) (.int 0) h = .ok (.int k) h := fun h => dIx_seq (xs := [.int k, .int (e' : Nat)]) rfl (by omega) rfl
        have i1 : ∀ h, dIx (.tup [.int k, .int (e' : Nat)]) (.int 1) h = .ok (.int (e' : Nat)) h := fun h => dIx_seq (xs := [.int k, .int (e' : Nat)]) rfl (by omega) rfl
        refine ⟨[some T.enc, some (.str s), some (.ref h.length), some (.int (e' : Nat)), some (oD (T.first s e'))], h ++ [Cell.lst ((acc ++ [(k, p, e')]).map pcD)], by unfold t__law_cut_1; simp [dIsN], ?_, s.length - e', by omega, acc ++ [(k, p, e')], e', rfl, rfl, a2, ?_, rfl⟩
        · unfold b__law_cut_2
          simp [ty, i0, i1, ap, first_call ok (show s.length ≤ 1000000 by omega) sb a2, -List.map_append]
        · rw [← hc, cutFrom_some e hp]
          simp)
  have hn : T.first s p = none := by
    revert e7
    unfold t__law_cut_1
    cases T.first s p with
    | none => exact fun _ => rfl
    | some q => obtain ⟨k, e'⟩ := q; simp [dIsN]
  rw [cutFrom_none hn, List.append_nil] at hc
  refine callC_pure (g := [Cell.frz (acc.map pcD)]) rfl ?_ (by simp)
  unfold m__law_cut
  have f0 := first_call ok (show s.length ≤ 1000000 by omega) sb (show 0 ≤ s.length by omega) (h ++ [Cell.lst []])
  have f0 : callC 3 m__law_first [T.enc, .str s, .int 0] (h ++ [Cell.lst []]) = .ok (oD (T.first s 0)) (h ++ [Cell.lst []]) := f0
  simp [newL_bindS, f0, e6, msFz, ← hc]
end NR

set_option Elab.async false
set_option linter.all false
set_option maxRecDepth 100000
set_option maxHeartbeats 4000000
namespace NR
open PySem PySem.Spec PyProof.Rows L2
theorem is_text_good5 {t s : List Nat} (sl : s.length ≤ 5000) (sb : ∀ x ∈ s, x ∈ t) (h : IH) : callC 2 m_is_text [.str t, .str s] h = .ok (.bl true) h := by
  rw [is_text_call (by omega)]
  have : (s.all fun x => decide (x ∈ t)) = true := by
    rw [List.all_eq_true]
    exact fun x hx => by simpa using sb x hx
  rw [this]
theorem cut_call {T : Tb} (ok : T.Ok) {s : List Nat} (sl : s.length ≤ 5000) (sb : ∀ x ∈ s, x ∈ T.sig) (h : IH) : callC 2 m_cut [T.enc, .str s] h = .ok (.tup [.fl ((T.cutFrom s 0).1.map pcD), .int ((T.cutFrom s 0).2 : Nat)]) h := by
  have t0 : ∀ h, dIx T.enc (.int 0) h = .ok (.str T.sig) h := fun h => dIx_seq (xs := [.str T.sig, .tup (T.goes.map gT), .tup (T.kinds.map D.int)]) rfl (by omega) rfl
  have bs : ∀ h : IH, bLen [.str s] h = .ok (.int (s.length : Nat)) h := fun h => bLen_str (by omega)
  have main : (∃ x, msWhile t_cut_1 b_cut_2 [some T.enc, some (.str s), some (.ref h.length), some (.int 0), none] (h ++ [Cell.lst []]) = .nx [some T.enc, some (.str s), some (.ref h.length), some (.int ((T.cutFrom s 0).2 : Nat)), x] (h ++ [Cell.lst ((T.cutFrom s 0).1.map pcD)])) ∨
      msWhile t_cut_1 b_cut_2 [some T.enc, some (.str s), some (.ref h.length), some (.int 0), none] (h ++ [Cell.lst []]) = .rt (.tup [.fl ((T.cutFrom s 0).1.map pcD), .int ((T.cutFrom s 0).2 : Nat)]) (h ++ [Cell.frz ((T.cutFrom s 0).1.map pcD)]) := by
    refine while_inv (fun m env h2 => ∃ (acc : List (Int × Nat × Nat)) (p : Nat) (x : Option D), env = [some T.enc, some (.str s), some (.ref h.length), some (.int (p : Nat)), x] ∧ h2 = h ++ [Cell.lst (acc.map pcD)] ∧ p ≤ s.length ∧ (acc ++ (T.cutFrom s p).1, (T.cutFrom s p).2) = T.cutFrom s 0 ∧ m = s.length - p)
      (fun r => (∃ x, r = .nx [some T.enc, some (.str s), some (.ref h.length), some (.int ((T.cutFrom s 0).2 : Nat)), x] (h ++ [Cell.lst ((T.cutFrom s 0).1.map pcD)])) ∨ r = .rt (.tup [.fl ((T.cutFrom s 0).1.map pcD), .int ((T.cutFrom s 0).2 : Nat)]) (h ++ [Cell.frz ((T.cutFrom s 0).1.map pcD)]))
      s.length _ _ ⟨[], 0, none, rfl, rfl, by omega, rfl, rfl⟩ ?_
    rintro m env _ ⟨acc, p, x, rfl, rfl, hp, hc, rfl⟩
    refine ⟨decide (p < s.length), by unfold t_cut_1; simp [bs], ?_⟩
    by_cases q : p < s.length
    · rw [if_pos (by simpa using q)]
      have lg := longest_call ok (by omega) sb hp (h ++ [Cell.lst (acc.map pcD)])
      cases e : T.first s p with
      | none =>
        rw [e] at lg
        rw [cutFrom_none e, List.append_nil] at hc
        unfold b_cut_2
        simp [lg, dIsN, ← hc, msFz]
      | some q =>
        obtain ⟨k, e'⟩ := q
        rw [e] at lg
        obtain ⟨a1, a2, _⟩ := first_end e hp
        have al : acc.length ≤ 5000 := by
          have := congrArg (fun z => z.1.length) hc
          have h2 := (cutFrom_len (T := T) (s := s) (n := s.length) (p := 0) (by omega) (by omega)).1
          simp at this
          omega
        have ty : tyD "list" (h ++ [Cell.lst (acc.map pcD)]) (.ref h.length) = true := tyD_ref (xs := acc.map pcD) (by simp)
        have ap : fAppend (.ref h.length) [.tup [.int k, .int (p : Nat), .int (e' : Nat)]] (h ++ [Cell.lst (acc.map pcD)]) = .ok .non (h ++ [Cell.lst ((acc ++ [(k, p, e')]).map pcD)]) := by
          rw [append_at (xs := acc.map pcD) (by simp) (by simp; omega)]
          simp [pcD]
        have i0 : ∀ h, dIx (.tup [.int k, .int (e' : Nat)]) (.int 0) h = .ok (.int k) h := fun h => dIx_seq (xs := [.int k, .int (e' : Nat)]) rfl (by omega) rfl
        have i1 : ∀ h, dIx (.tup [.int k, .int (e' : Nat)]) (.int 1) h = .ok (.int (e' : Nat)) h := fun h => dIx_seq (xs := [.int k, .int (e' : Nat)]) rfl (by omega) rfl
        have hc2 : (acc ++ [(k, p, e')] ++ (T.cutFrom s e').1, (T.cutFrom s e').2) = T.cutFrom s 0 := by
          rw [← hc, cutFrom_some e hp]
          simp
        unfold b_cut_2
        simp [lg, dIsN, ty, i0, i1, ap, -List.map_append, -List.append_assoc]
        exact ⟨s.length - e', by omega, acc ++ [(k, p, e')], e', rfl, rfl, a2, hc2, rfl⟩
    · rw [if_neg (by simpa using q)]
      left
      have : p = s.length := by omega
      rw [cutFrom_none (first_over (by omega)), List.append_nil] at hc
      exact ⟨x, by rw [← hc]⟩
  refine callC_pure (g := [Cell.frz ((T.cutFrom s 0).1.map pcD)]) rfl ?_ (by simp)
  unfold m_cut
  have ig := is_text_good5 sl sb h
  rcases main with ⟨x, e⟩ | e
  · simp [t0, ig, newL_bindS, e, msFz]
  · simp [t0, ig, newL_bindS, e]
end NR

set_option Elab.async false
set_option linter.all false
set_option maxRecDepth 100000
set_option maxHeartbeats 4000000
namespace NR
open PySem PySem.Spec PyProof.Rows L2
/-! ### what a plain number is -/
theorem is_number_call {d : D} (k : d.kn = true) (h : IH) : callC 1 m_is_number [d] h = .ok (.bl d.isI) h := by
  refine callC_same rfl ?_
  have i1 := isT_int_kn (h := h) k
  have i2 := isT_bool_kn (h := h) k
  unfold m_is_number
  cases d <;> simp_all [D.isI]
def D.isNs : D → Bool
  | .tup l => l.all D.isI
  | _ => false
theorem is_numbers_any {x : D} (kx : x.kn2 = true) (h : IH) : callC 1 m_is_numbers [x] h = .ok (.bl x.isNs) h := by
  have hk : x.kn = true := by
    cases x with
    | tup l => rfl
    | _ => exact kx
  refine callC_same rfl ?_
  cases x with
  | tup l =>
    have ld : ∀ d ∈ l, d.kn = true := fun d hd => List.all_eq_true.mp kx d hd
    have main := for_rt (s := b_is_numbers_1) (gg := gSet 1) (ds := l) (env := [some (.tup l), none]) (h := h)
        (fun i env h2 => ∃ y, env = [some (.tup l), y] ∧ h = h2 ∧ ∀ j < i, ∀ d, l[j]? = some d → d.isI = true)
        (fun x h2 => x = .bl false ∧ h = h2 ∧ ∃ d ∈ l, d.isI = false) ⟨none, rfl, rfl, fun j hj => absurd hj (Nat.not_lt_zero _)⟩ (by
          rintro i d env _ hd ⟨y, rfl, rfl, al⟩
          have dk := ld d (List.mem_of_getElem? hd)
          have c := is_number_call dk h
          refine ⟨_, rfl, ?_⟩
          cases e : d.isI with
          | false =>
            rw [e] at c
            refine .inr ⟨.bl false, h, ?_, rfl, rfl, d, List.mem_of_getElem? hd, e⟩
            unfold b_is_numbers_1
            simp [gSet, c]
          | true =>
            rw [e] at c
            refine .inl ⟨[some (.tup l), some d], h, ?_, _, rfl, rfl, fun j hj d' e' => ?_⟩
            · unfold b_is_numbers_1
              simp [gSet, c]
            · by_cases z : j = i
              · subst z; rw [hd] at e'; cases e'; exact e
              · exact al j (by omega) d' e')
    unfold m_is_numbers
    rcases main with ⟨_, _, e, y, rfl, rfl, al⟩ | ⟨x, _, e, rfl, rfl, d, hd, ed⟩
    · have : l.all D.isI = true := List.all_eq_true.mpr fun d hd => by
        obtain ⟨j, hj⟩ := List.mem_iff_getElem?.mp hd
        exact al j (List.getElem?_eq_some_iff.mp hj).1 d hj
      simp [e, D.isNs]
      intro x hx
      exact List.all_eq_true.mp this x hx
    · simp [e, D.isNs]
      exact ⟨d, hd, ed⟩
  | ref n => cases hk
  | exc n => cases hk
  | _ => unfold m_is_numbers; simp [D.isNs]
end NR

set_option Elab.async false
set_option linter.all false
set_option maxRecDepth 100000
set_option maxHeartbeats 1000000
/-! A for over what stands still, by its items. -/
namespace NR
open PySem PySem.Spec PyProof.Rows L2
def forL (g : MG) (b : MS) : List D → EV → IH → RS
  | [], env, h => .nx env h
  | d :: ds, env, h => match g d env with
    | none => .no
    | some e1 => match b e1 h with
      | .nx e2 h2 => forL g b ds e2 h2
      | .ct e2 h2 => forL g b ds e2 h2
      | .bk e2 h2 => .nx e2 h2
      | r => r
/-- what follows a turn -/
def RS.on (k : EV → IH → RS) : RS → RS
  | .nx e h => k e h
  | .ct e h => k e h
  | .bk e h => .nx e h
  | r => r
section
variable {g : MG} {b : MS} {env e1 : EV} {h h' : IH} {d : D} {ds : List D} {k : EV → IH → RS}
@[simp] theorem on_nx : (RS.nx env h).on k = k env h := rfl
@[simp] theorem on_ct : (RS.ct env h).on k = k env h := rfl
@[simp] theorem on_bk : (RS.bk env h).on k = .nx env h := rfl
@[simp] theorem on_rt : (RS.rt d h).on k = .rt d h := rfl
@[simp] theorem on_ex {c : Str} {x : XF} : (RS.ex c x env h).on k = .ex c x env h := rfl
@[simp] theorem forL_nil : forL g b [] env h = .nx env h := rfl
theorem forL_cons (e : g d env = some e1) : forL g b (d :: ds) env h = (b e1 h).on (forL g b ds) := by
  show (match g d env with
    | none => _
    | some e1 => _) = _
  rw [e]
  dsimp only
  cases b e1 h <;> rfl
theorem forM_forL : forM (.st ds) g b ((Src.st ds).many h' + 1) 0 env h = forL g b ds env h := by
  have go : ∀ (m i : Nat) (env : EV) (h : IH), i + m = ds.length + 1 → i ≤ ds.length → forM (.st ds) g b m i env h = forL g b (ds.drop i) env h := by
    intro m
    induction m with
    | zero => 
      intro i env h e l
      omega
    | succ m ih =>
      intro i env h e l
      unfold forM
      rw [if_pos (show (Src.st ds).ok h = true from rfl)]
      show (match ds[i]? with
        | none => _
        | some d => _) = _
      cases hd : ds[i]? with
      | none =>
        rw [List.drop_eq_nil_of_le (List.getElem?_eq_none_iff.mp hd)]
        rfl
      | some d =>
        obtain ⟨hi, hx⟩ := List.getElem?_eq_some_iff.mp hd
        rw [List.drop_eq_getElem_cons hi, hx]
        dsimp only [forL]
        cases g d env with
        | none => rfl
        | some e1 =>
          dsimp only
          cases b e1 h <;> first | rfl | exact ih (i + 1) _ _ (by omega) (by omega)
  exact go _ 0 env h (by show 0 + (ds.length + 1) = _; omega) (Nat.zero_le _)
theorem forL_app {as bs : List D} {env : EV} {h : IH} {e2 : EV} {h2 : IH} (e : forL g b as env h = .nx e2 h2) (nb : ∀ (i : Nat) (d : D) (env : EV) (h : IH) (e1 : EV), as[i]? = some d → g d env = some e1 → ∀ e2 h2, b e1 h ≠ .bk e2 h2) : forL g b (as ++ bs) env h = forL g b bs e2 h2 := by
  induction as generalizing env h with
  | nil => cases e; rfl
  | cons d as ih =>
    cases hg : g d env with
    | none => simp [forL, hg] at e
    | some e1 =>
      rw [List.cons_append, forL_cons hg]
      rw [forL_cons hg] at e
      have nb0 := nb 0 d env h e1 rfl hg
      have nb' : ∀ (i : Nat) (d : D) (env : EV) (h : IH) (e1 : EV), as[i]? = some d → g d env = some e1 → ∀ e2 h2, b e1 h ≠ .bk e2 h2 := fun i d env h e1 q => nb (i + 1) d env h e1 (by simpa using q)
      revert e nb0
      cases b e1 h with
      | nx e3 h3 => intro e _; exact ih e nb'
      | ct e3 h3 => intro e _; exact ih e nb'
      | bk e3 h3 => intro _ nb0; exact absurd rfl (nb0 e3 h3)
      | rt _ _ => intro e; cases e
      | ex _ _ _ _ => intro e; cases e
      | no => intro e; cases e
end
/-! ### dicts whose keys are numbers from nought -/
def lookN {A : Type} (d : List (Nat × A)) (k : Nat) : Option A := (d.find? fun p => decide (p.1 = k)).map (·.2)
def dkN {A : Type} (f : A → D) (d : List (Nat × A)) : List (DKey × D) := d.map fun p => (Sum.inl (p.1 : Int), f p.2)
theorem valKD_dkN {A : Type} {f : A → D} (k : Nat) : ∀ (d : List (Nat × A)), valKD (dkN f d) (Sum.inl (k : Int)) = (lookN d k).map f
  | [] => rfl
  | p :: d => by
    have ih := valKD_dkN (f := f) k d
    unfold valKD lookN at *
    unfold dkN at *
    rw [List.map_cons, List.find?_cons, List.find?_cons]
    by_cases e : p.1 = k
    · have : (Sum.inl (p.1 : Int) : DKey) = Sum.inl (k : Int) := by rw [e]
      simp [e]
    · have : ¬ ((Sum.inl (p.1 : Int) : DKey) = Sum.inl (k : Int)) := fun z => e (by injection z with z; omega)
      simp only [decide_eq_false this, decide_eq_false e]
      exact ih
theorem putKD_dkN {A : Type} {f : A → D} {k : Nat} {a : A} {d : List (Nat × A)} (e : lookN d k = none) : putKD (dkN f d) (Sum.inl (k : Int)) (f a) = dkN f (d ++ [(k, a)]) := by
  have h : ((dkN f d).any fun p => decide (p.1 = (Sum.inl (k : Int) : DKey))) = false := by
    rw [List.any_eq_false]
    intro p hp
    obtain ⟨q, hq, rfl⟩ := List.mem_map.mp hp
    simp only [decide_eq_true_eq]
    intro z
    injection z with z
    have : q.1 = k := by omega
    unfold lookN at e
    rw [Option.map_eq_none_iff, List.find?_eq_none] at e
    exact e q hq (by simpa using this)
  unfold putKD
  rw [h, if_neg Bool.false_ne_true]
  simp [dkN]
theorem lookN_none {A : Type} {d : List (Nat × A)} {k : Nat} : lookN d k = none ↔ k ∉ d.map (·.1) := by
  unfold lookN
  rw [Option.map_eq_none_iff, List.find?_eq_none]
  simp only [decide_eq_true_eq, List.mem_map, not_exists, not_and]
theorem lookN_some {A : Type} {d : List (Nat × A)} {k : Nat} {a : A} (e : lookN d k = some a) : (k, a) ∈ d := by
  unfold lookN at e
  rw [Option.map_eq_some_iff] at e
  obtain ⟨p, h1, h2⟩ := e
  have h3 := List.mem_of_find?_eq_some h1
  have h4 := List.find?_some h1
  simp only [decide_eq_true_eq] at h4
  subst h2
  subst h4
  exact h3
theorem lookN_app {A : Type} {d e : List (Nat × A)} {k : Nat} : lookN (d ++ e) k = match lookN d k with | some a => some a | none => lookN e k := by
  unfold lookN
  rw [List.find?_append]
  cases d.find? fun p => decide (p.1 = k) <;> rfl
@[simp] theorem dkN_len {A : Type} {f : A → D} {d : List (Nat × A)} : (dkN f d).length = d.length := by simp [dkN]
theorem dDIn_dk {A : Type} {f : A → D} {h : IH} {n k : Nat} {neg : Bool} {d : List (Nat × A)} (e : h[n]? = some (.dk (dkN f d))) : dDIn neg (.int (k : Nat)) (.ref n) h = .ok (.bl (if neg then (lookN d k).isNone else (lookN d k).isSome)) h := by
  unfold dDIn dGet?
  simp only [e, keyD?, Option.map_some, valKD_dkN, Option.isSome_map]
  cases lookN d k <;> rfl
theorem dDGet_dk {A : Type} {f : A → D} {h : IH} {n k : Nat} {d : List (Nat × A)} {a : A} (e : h[n]? = some (.dk (dkN f d))) (l : lookN d k = some a) : dDGet (.ref n) (.int (k : Nat)) h = .ok (f a) h := by
  unfold dDGet dGet?
  simp only [e, keyD?, Option.map_some, valKD_dkN, l]
theorem putDD_dk {A : Type} {f : A → D} {h : IH} {n k : Nat} {d : List (Nat × A)} {a : A} (e : h[n]? = some (.dk (dkN f d))) (l : lookN d k = none) (hl : d.length < 10000000) : putDD (.ref n) (.int (k : Nat)) (f a) h = some (h.set n (.dk (dkN f (d ++ [(k, a)])))) := by
  unfold putDD
  simp only [e, keyD?, dkN_len, if_pos hl, putKD_dkN l]
@[simp] theorem ap_msSetD {mo mi me : ME} {env : EV} {h : IH} : msSetD mo mi me env h = (me env h).bindS env fun v h1 => (mo env h1).bindS env fun o h2 => (mi env h2).bindS env fun i h3 => match putDD o i v h3 with
  | some h4 => .nx env h4
  | none => .no := rfl
@[simp] theorem ap_mDGet1 {mo mi : ME} {env : EV} {h : IH} : mDGet1 mo mi env h = (mo env h).bind fun x h1 => if isDD h1 x = true then (mi env h1).bind fun y h2 => dDGet1 x y h2 else .no := rfl
@[simp] theorem ap_mDictT {env : EV} {h : IH} : mDictT env h = .ok (.ref h.length) (h ++ [.dt []]) := rfl
theorem ap_mDict1 {mk mv : ME} {env : EV} {h : IH} {k v : D} {kd : DKey} (e1 : mk env (h ++ [.dk []]) = .ok k (h ++ [.dk []])) (e2 : mv env (h ++ [.dk []]) = .ok v (h ++ [.dk []])) (e3 : keyD? k = some kd) : mDict [(mk, mv)] env h = .ok (.ref h.length) (h ++ [.dk [(kd, v)]]) := by
  unfold mDict mPr
  rw [e1]
  simp only [bind_ok]
  rw [e2]
  simp [mPr, keyPs, e3, dkAt, putKD]
@[simp] theorem ap_iRange3 {ta : MA} {env : EV} {h : IH} : iRange3 ta env h = (ta env h).bind fun xs h1 => match xs with
  | [.int i, .int j, .int c] => if c = -1 ∧ -10000000 ≤ i ∧ i ≤ 10000000 ∧ -10000000 ≤ j ∧ j ≤ 10000000 then .ok (.st (intsDown i (i - j).toNat)) h1 else .no
  | _ => .no := rfl
/-- signs beside the rooms of a row -/
def zD (t row : List Nat) : List D := List.zipWith (fun x y : D => D.tup [x, y]) (t.map fun c => .str [c]) (row.map nD)
@[simp] theorem zD_len {t row : List Nat} : (zD t row).length = min t.length row.length := by simp [zD]
theorem zip_get {t row : List Nat} {i : Nat} {d : D} (e : (zD t row)[i]? = some d) : ∃ c s, t[i]? = some c ∧ row[i]? = some s ∧ d = .tup [.str [c], .int (s : Nat)] := by
  unfold zD at e
  rw [List.getElem?_zipWith] at e
  simp only [List.getElem?_map] at e
  cases q1 : t[i]? with
  | none => rw [q1] at e; cases e
  | some c =>
    cases q2 : row[i]? with
    | none => rw [q1, q2] at e; cases e
    | some s => rw [q1, q2] at e; cases e; exact ⟨c, s, rfl, rfl, rfl⟩
def zP (p : Nat × Nat) : D := .tup [.str [p.1], nD p.2]
theorem zD_eq : ∀ {t row : List Nat}, zD t row = (t.zip row).map zP
  | [], _ => rfl
  | _ :: _, [] => rfl
  | c :: t, s :: row => by
    have := zD_eq (t := t) (row := row)
    unfold zD at *
    simp [this, zP]
theorem intsFrom_succ {lo : Int} {n : Nat} : intsFrom lo (n + 1) = .int lo :: intsFrom (lo + 1) n := by
  unfold intsFrom
  rw [List.range_succ_eq_map, List.map_cons, List.map_map]
  congr 1
  · simp
  · refine List.map_congr_left fun i _ => ?_
    show D.int _ = D.int _
    congr 1
    simp only [Nat.succ_eq_add_one, Int.natCast_add, Int.natCast_one]
    omega
@[simp] theorem ap_msBreak {env : EV} {h : IH} : msBreak env h = .bk env h := rfl
@[simp] theorem ap_msCont {env : EV} {h : IH} : msCont env h = .ct env h := rfl
@[simp] theorem ap_msRetN {env : EV} {h : IH} : msRetN env h = .rt .non h := rfl
end NR

set_option Elab.async false
set_option linter.all false
set_option maxRecDepth 100000
set_option maxHeartbeats 4000000
namespace NR
open PySem PySem.Spec PyProof.Rows L2
/-! steps of a body, one by one -/
section
variable {s1 s2 : MS} {env env2 : EV} {h h2 h' : IH} {r : R D} {d : D} {it : MI} {gg : MG} {b : MS} {ds : List D} {q : RS}
theorem stN (e : s1 env h = .nx env2 h2) (k : (s2 env2 h2).fin = r) : (msCons s1 s2 env h).fin = r := by rw [ap_msCons, e, then_nx]; exact k
theorem stS (e : s1 env h = .nx env2 h2) (k : s2 env2 h2 = q) : msCons s1 s2 env h = q := by rw [ap_msCons, e, then_nx]; exact k
theorem stX (e : s1 env h = .nx env2 h2) (k : ∃ h', (s2 env2 h2).fin = .ok d h') : ∃ h', (msCons s1 s2 env h).fin = .ok d h' := by rw [ap_msCons, e, then_nx]; exact k
theorem stR (e : s1 env h = .rt d h') : (msCons s1 s2 env h).fin = .ok d h' := by rw [ap_msCons, e, then_rt]; rfl
theorem stRS (e : s1 env h = .rt d h') : msCons s1 s2 env h = .rt d h' := by rw [ap_msCons, e, then_rt]
theorem for_st (e : it env h = .ok (.st ds) h2) : msFor it gg b env h = forL gg b ds env h2 := by rw [ap_msFor, e, bindS_ok, forM_forL]
end
theorem fzD_penG {xs : List D} {z c c' : Cell} {g r : IH} (lo : ∀ k, D.loL k xs = true) (lc : ∀ k, Cell.lo k c' = true) : fzD (z :: c :: g) (z :: c' :: (g ++ r)) xs = .ok (.fl xs) (z :: c' :: g) := by
  unfold fzD newL
  rw [fzR_at (n := (z :: c' :: (g ++ r)).length) (xs := xs) (by simp) (by simp) (lo _) (by simp [lc])]
  simp
/-- drawing steps that leave cells behind the comprehension's list -/
theorem lcF_penG {env : EV} {m : ME} {it : MI} {gg : MG} {ws : List Nat} {ds : List D} {z cc c0 : Cell} {g : IH} {Pn : Nat → Cell → Prop} {b K : Nat} (lop : ∀ b c k, Pn b c → Cell.lo k c = true) (Po : Nat → D → Prop) (hi : it env (z :: cc :: g) = .ok (.st ds) (z :: c0 :: g)) (hl : ds.length ≤ 9000000)
    (hp : Pn (b + K * ds.length) c0) (lo : ∀ i y k, Po i y → D.lo k y = true)
    (step : ∀ i d, ds[i]? = some d → ∃ e1, gg d (wipeE env ws) = some e1 ∧ ∀ b c g, Pn (b + K) c → ∃ y c' r, m e1 (z :: c :: g) = .ok y (z :: c' :: (g ++ r)) ∧ Pn b c' ∧ Po i y) :
    ∃ ys c', mFz (mLc it gg mYes m ws) env (z :: cc :: g) = .ok (.fl ys) (z :: c' :: g) ∧ ys.length = ds.length ∧ (∀ i y, ys[i]? = some y → Po i y) ∧ Pn b c' := by
  have main : ∃ ys c' r, lcM (.st ds) gg mYes m (z :: c0 :: g).length ((Src.st ds).many (z :: c0 :: g) + 1) 0 (wipeE env ws) ((z :: c0 :: g) ++ [Cell.lst []]) = .ok (.ref (z :: c0 :: g).length) (z :: c' :: (g ++ Cell.lst ys :: r)) ∧ ys.length = ds.length ∧ (∀ i y, ys[i]? = some y → Po i y) ∧ Pn b c' := by
    refine lcM_inv (P := fun i h' => ∃ ys c' r, h' = z :: c' :: (g ++ Cell.lst ys :: r) ∧ ys.length = i ∧ (∀ j y, ys[j]? = some y → Po j y) ∧ Pn (b + K * (ds.length - i)) c') (Rs := fun o => ∃ ys c' r, o = .ok (.ref (z :: c0 :: g).length) (z :: c' :: (g ++ Cell.lst ys :: r)) ∧ ys.length = ds.length ∧ (∀ i y, ys[i]? = some y → Po i y) ∧ Pn b c') ?_ ?_ ?_
    · rintro i d h' hd ⟨ys, c', r, rfl, l1, p1, n1⟩
      have hi' := (List.getElem?_eq_some_iff.mp hd).1
      obtain ⟨e1, g1, st⟩ := step i d hd
      have e0 : ds.length - i = (ds.length - (i + 1)) + 1 := by omega
      rw [e0, Nat.mul_succ, ← Nat.add_assoc] at n1
      obtain ⟨y, c2, r2, e2, n2, p2⟩ := st _ c' (g ++ Cell.lst ys :: r) n1
      refine ⟨e1, g1, ?_⟩
      show ∃ y h3 acc, m e1 _ = .ok y h3 ∧ _
      refine ⟨y, _, ys, e2, by simp, by omega, ys ++ [y], c2, r ++ r2, by simp, by simp [l1], fun j z hz => ?_, n2⟩
      by_cases hj : j < ys.length
      · rw [List.getElem?_append_left hj] at hz
        exact p1 j z hz
      · have hj2 : j = ys.length := by
          have := (List.getElem?_eq_some_iff.mp hz).1
          simp at this
          omega
        subst hj2
        rw [List.getElem?_append_right (Nat.le_refl _), Nat.sub_self] at hz
        simp at hz
        subst hz
        rw [l1]
        exact p2
    · rintro h' ⟨ys, c', r, rfl, l1, p1, n1⟩
      rw [Nat.sub_self, Nat.mul_zero, Nat.add_zero] at n1
      exact ⟨ys, c', r, rfl, l1, p1, n1⟩
    · exact ⟨[], c0, [], by simp, rfl, by simp, by simpa using hp⟩
  obtain ⟨ys, c', r, e, l1, p1, n1⟩ := main
  refine ⟨ys, c', ?_, l1, p1, n1⟩
  rw [ap_mFz0, ap_mLc, hi]
  show fzR _ (lcM _ _ _ _ _ _ _ _ _) = _
  rw [e, fzR_at (xs := ys) (by simp) (by simp) (loL_of fun x hx => by
    obtain ⟨j, hj⟩ := List.mem_iff_getElem?.mp hx
    exact lo j x _ (p1 j x hj)) (by simp [lop b c' _ n1])]
  simp
theorem bMax1T_tup {h : IH} {ns : List Int} (l : 0 < ns.length) : bMax1T [.tup (ns.map D.int)] h = .ok (.int (imax ns)) h := by
  show (match (some (ns.map D.int)).bind (allM D.int?) with | some ns => if 0 < ns.length then R.ok (D.int (imax ns)) h else .no | none => .no) = _
  simp [l]
theorem bMax1T_fl {h : IH} {ns : List Int} (l : 0 < ns.length) : bMax1T [.fl (ns.map D.int)] h = .ok (.int (imax ns)) h := by
  show (match (some (ns.map D.int)).bind (allM D.int?) with | some ns => if 0 < ns.length then R.ok (D.int (imax ns)) h else .no | none => .no) = _
  simp [l]
theorem bMin1T_fl {h : IH} {ns : List Int} (l : 0 < ns.length) : bMin1T [.fl (ns.map D.int)] h = .ok (.int (imin ns)) h := by
  show (match (some (ns.map D.int)).bind (allM D.int?) with | some ns => if 0 < ns.length then R.ok (D.int (imin ns)) h else .no | none => .no) = _
  simp [l]
@[simp] theorem ap_mIsT {Ts : List String} {m : ME} {env : EV} {h : IH} : mIsT Ts m env h = (m env h).bind fun x h1 => match isTs h1 x Ts with | some b => .ok (.bl b) h1 | none => .no := rfl
@[simp] theorem ap_mChain3 {f g f3 : D → D → IH → R D} {a b c d : ME} {env : EV} {h : IH} : mChain3 f g f3 a b c d env h = (a env h).bind fun x h1 => (b env h1).bind fun y h2 => (f x y h2).bind fun z h3 => match z with
  | .bl true => (c env h3).bind fun w h4 => (g y w h4).bind fun u h5 => match u with
    | .bl true => (d env h5).bind fun t h6 => f3 w t h6
    | .bl false => .ok (.bl false) h5
    | _ => .no
  | .bl false => .ok (.bl false) h3
  | _ => .no := rfl
@[simp] theorem ap_iRevR1 {ta : MA} {env : EV} {h : IH} : iRevR1 ta env h = (ta env h).bind fun xs h1 => match xs with
  | [.int j] => if -10000000 ≤ j ∧ j ≤ 10000000 then .ok (.st (intsDown (j - 1) j.toNat)) h1 else .no
  | _ => .no := rfl
/-! what is locked within -/
/-- nothing within is to be locked -/
def Fz (m : Nat) (d : D) : Prop := ∀ (b k : Nat) (h : IH), m ≤ k → dzD b k h d = some (d, h)
theorem Fz.mono {m n : Nat} {d : D} (f : Fz m d) (l : m ≤ n) : Fz n d := fun b k h q => f b k h (by omega)
theorem fz1 {m : Nat} {d : D} (l : 1 ≤ m) (e : ∀ b k h, dzD b (k + 1) h d = some (d, h)) : Fz m d := fun b k h q => by
  cases k with
  | zero => omega
  | succ k => exact e b k h
theorem Fz_int {i : Int} : Fz 1 (.int i) := fz1 (by omega) fun _ _ _ => by simp [dzD]
theorem Fz_nD {i : Nat} : Fz 1 (nD i) := Fz_int
theorem Fz_str {i : List Nat} : Fz 1 (.str i) := fz1 (by omega) fun _ _ _ => by simp [dzD]
theorem Fz_bl {i : Bool} : Fz 1 (.bl i) := fz1 (by omega) fun _ _ _ => by simp [dzD]
theorem Fz_non : Fz 1 .non := fz1 (by omega) fun _ _ _ => by simp [dzD]
theorem Fz_fl {l : List D} : Fz 1 (.fl l) := fz1 (by omega) fun _ _ _ => by simp [dzD]
theorem dzL_fz {m : Nat} {b : Nat} : ∀ {l : List D} {k : Nat} {h : IH}, (∀ d ∈ l, Fz m d) → m + l.length + 1 ≤ k → dzL b k h l = some (l, h)
  | [], 0, h, _, q => by omega
  | [], k + 1, h, _, q => by unfold dzL; rfl
  | d :: l, 0, h, f, q => by omega
  | d :: l, k + 1, h, f, q => by
    unfold dzL
    rw [List.length_cons] at q
    rw [f d List.mem_cons_self b k h (by omega)]
    dsimp only
    rw [dzL_fz (fun x hx => f x (List.mem_cons_of_mem _ hx)) (by omega)]
theorem Fz_tup {m : Nat} {l : List D} (f : ∀ d ∈ l, Fz m d) : Fz (m + l.length + 2) (.tup l) := fun b k h q => by
  cases k with
  | zero => omega
  | succ k =>
    unfold dzD
    rw [dzL_fz f (by omega)]
/-- a new list -/
theorem dzD_new {m b k n : Nat} {h : IH} {xs : List D} (bn : b ≤ n) (e : h[n]? = some (.lst xs)) (f : ∀ d ∈ xs, Fz m d) (q : m + xs.length + 2 ≤ k) : dzD b k h (.ref n) = some (.fl xs, h.set n (.frz xs)) := by
  cases k with
  | zero => omega
  | succ k =>
    unfold dzD
    rw [if_pos bn, e]
    dsimp only
    rw [dzL_fz f (by omega)]
theorem dzR_of {h h' h2 : IH} {d d' : D} (e : dzD h.length 1000 h' d = some (d', h2)) (lo : D.lo h.length d' = true) (ok : okB h.length h h2) : dzR h (.ok d h') = .ok d' (h2.take h.length) := by
  unfold dzR
  dsimp only
  rw [e]
  dsimp only
  rw [if_pos ⟨lo, ok⟩]
/-- a tuple whose first item is a new list -/
theorem dz_tup1 {m : Nat} {h : IH} {xs l : List D} (f : ∀ d ∈ xs, Fz m d) (g : ∀ d ∈ l, Fz m d) (q : m + xs.length + l.length ≤ 900) (lo1 : D.loL h.length xs = true) (lo2 : D.loL h.length l = true) :
    dzR h (.ok (.tup (.ref h.length :: l)) (h ++ [.lst xs])) = .ok (.tup (.fl xs :: l)) h := by
  rw [dzR_of (d' := .tup (.fl xs :: l)) (h2 := h ++ [.frz xs]) ?_ (by simp [lo1, lo2]) okB_self]
  · simp
  · unfold dzD
    have e : dzL h.length 999 (h ++ [.lst xs]) (.ref h.length :: l) = some (.fl xs :: l, h ++ [.frz xs]) := by
      unfold dzL
      rw [dzD_new (k := 998) (Nat.le_refl _) get_app0 f (by omega), set_app0]
      dsimp only
      rw [dzL_fz (k := 998) g (by omega)]
      rfl
    rw [e]
theorem ap_mDz {m : ME} {env : EV} {h : IH} : mDz m env h = dzR h (m env h) := rfl
theorem dz_bind {A : Type} {h : IH} {r : R A} {k : A → IH → R D} : dzR h (r.bind k) = r.bind fun a h1 => dzR h (k a h1) := by cases r <;> rfl
@[simp] theorem ap_mDz_call {n : Nat} {fm : MF} {ta : MA} {env : EV} {h : IH} : mDz (mCall n fm ta) env h = (ta env h).bind fun ds h1 => dzR h (callC n fm ds h1) := by rw [ap_mDz, ap_mCall, dz_bind]
@[simp] theorem dz_ex {h h' : IH} {c : Str} {d : XF} : dzR h (.ex c d h') = .ex c d h' := rfl
@[simp] theorem dIs_tup_non {neg : Bool} {l : List D} {h : IH} : dIsN neg (.tup l) .non h = .ok (.bl neg) h := rfl
@[simp] theorem dIs_fl_non {neg : Bool} {l : List D} {h : IH} : dIsN neg (.fl l) .non h = .ok (.bl neg) h := rfl
@[simp] theorem dIs_str_non {neg : Bool} {l : List Nat} {h : IH} : dIsN neg (.str l) .non h = .ok (.bl neg) h := rfl
@[simp] theorem dIs_int_non {neg : Bool} {l : Int} {h : IH} : dIsN neg (.int l) .non h = .ok (.bl neg) h := rfl
@[simp] theorem dIs_bl_non {neg : Bool} {l : Bool} {h : IH} : dIsN neg (.bl l) .non h = .ok (.bl neg) h := rfl
@[simp] theorem dIs_ref_non {neg : Bool} {l : Nat} {h : IH} : dIsN neg (.ref l) .non h = .ok (.bl neg) h := rfl
theorem dIx_last {h : IH} {o : D} {xs : List D} {d : D} (hs : seqOf h o = some xs) (e : xs[xs.length - 1]? = some d) : dIx o (.int (-1)) h = .ok d h := by
  have hi := (List.getElem?_eq_some_iff.mp e).1
  show getD' _ _ _ = _
  unfold getD'
  cases o with
  | str s => simp [seqOf] at hs
  | _ =>
    dsimp only
    rw [hs]
    have : ixN xs.length (-1) = some (xs.length - 1) := by
      unfold ixN
      rw [if_neg (by omega), if_pos (by omega)]
      congr 1
      omega
    dsimp only [Option.bind]
    rw [this]
    dsimp only [Option.bind]
    rw [e]
/-! sources that are read of the heap -/
theorem forM_src {src : Src} {ds : List D} {g : MG} {b : MS} (P : IH → Prop) (hs : ∀ h, P h → src.ok h = true ∧ ∀ i, src.get h i = ds[i]?) (keep : ∀ e1 h, P h → ∀ e2 h2, (b e1 h = .nx e2 h2 ∨ b e1 h = .ct e2 h2) → P h2) :
    ∀ (m i : Nat) (env : EV) (h : IH), P h → ds.length < m + i → i ≤ ds.length → forM src g b m i env h = forL g b (ds.drop i) env h
  | 0, i, env, h, _, l, l2 => by omega
  | m + 1, i, env, h, hp, l, l2 => by
    obtain ⟨o, ge⟩ := hs h hp
    unfold forM
    rw [if_pos o, ge i]
    cases hd : ds[i]? with
    | none =>
      have := List.getElem?_eq_none_iff.mp hd
      rw [List.drop_eq_nil_of_le this]
      rfl
    | some d =>
      have hi := (List.getElem?_eq_some_iff.mp hd).1
      have ed : ds[i] = d := (List.getElem?_eq_some_iff.mp hd).2
      rw [List.drop_eq_getElem_cons hi, ed]
      dsimp only
      cases hg : g d env with
      | none => unfold forL; rw [hg]
      | some e1 =>
        dsimp only
        rw [forL_cons hg]
        have kp := keep e1 h hp
        cases hb : b e1 h with
        | nx e2 h2 => exact forM_src P hs keep m (i + 1) e2 h2 (kp e2 h2 (.inl hb)) (by omega) hi
        | ct e2 h2 => exact forM_src P hs keep m (i + 1) e2 h2 (kp e2 h2 (.inr hb)) (by omega) hi
        | bk e2 h2 => rfl
        | rt d2 h2 => rfl
        | ex c d2 e2 h2 => rfl
        | no => rfl
/-- a for whose turns leave the heap as it is -/
theorem for_src {it : MI} {gg : MG} {b : MS} {env : EV} {h h2 : IH} {src : Src} {ds : List D} (e : it env h = .ok src h2) (o : src.ok h2 = true) (ge : ∀ i, src.get h2 i = ds[i]?) (mn : src.many h2 = ds.length) (keep : ∀ e1 e2 h3, (b e1 h2 = .nx e2 h3 ∨ b e1 h2 = .ct e2 h3) → h3 = h2) : msFor it gg b env h = forL gg b ds env h2 := by
  rw [ap_msFor, e, bindS_ok, mn, forM_src (fun h => h = h2) (fun h x => by subst x; exact ⟨o, ge⟩) (fun e1 h x e2 h3 hb => by subst x; exact keep e1 e2 h3 hb) _ 0 env h2 rfl (by omega) (by omega), List.drop_zero]
/-- a zip of lists as they stand -/
theorem iZip_q {ta : MA} {env : EV} {h h2 : IH} {a b : D} {l l' : List D} (e : ta env h = .ok [a, b] h2) (ea : qOf h2 a = some l) (eb : qOf h2 b = some l') : ∃ src, iZip ta env h = .ok src h2 ∧ src.ok h2 = true ∧ (∀ i, src.get h2 i = (List.zipWith (fun x y : D => D.tup [x, y]) l l')[i]?) ∧ src.many h2 = (List.zipWith (fun x y : D => D.tup [x, y]) l l').length := by
  have ez : zipQ a b (min l.length l'.length) h2 = some (List.zipWith (fun x y : D => D.tup [x, y]) l l') := by
    unfold zipQ
    rw [ea, eb]
    dsimp only
    rw [if_pos rfl]
  unfold iZip
  rw [e, bind_ok]
  dsimp only
  have dy : ∃ src, (R.ok (Src.dy (zipQ a b (min l.length l'.length))) h2 : R Src) = .ok src h2 ∧ src.ok h2 = true ∧ (∀ i, src.get h2 i = (List.zipWith (fun x y : D => D.tup [x, y]) l l')[i]?) ∧ src.many h2 = (List.zipWith (fun x y : D => D.tup [x, y]) l l').length :=
    ⟨_, rfl, by show (zipQ a b (min l.length l'.length) h2).isSome = true; rw [ez]; rfl, fun i => by show (zipQ a b (min l.length l'.length) h2).bind _ = _; rw [ez]; rfl, by show ((zipQ a b (min l.length l'.length) h2).getD []).length = _; rw [ez]; rfl⟩
  cases sa : stOf a with
  | none => dsimp only; rw [ea, eb]; exact dy
  | some m =>
    cases sb : stOf b with
    | none => dsimp only; rw [ea, eb]; exact dy
    | some m' =>
      have e1 : m = l := by
        cases a <;> simp [stOf] at sa <;> simp [qOf, stOf] at ea <;> rw [← sa, ← ea]
      have e2 : m' = l' := by
        cases b <;> simp [stOf] at sb <;> simp [qOf, stOf] at eb <;> rw [← sb, ← eb]
      subst e1 e2
      exact ⟨_, rfl, rfl, fun i => rfl, rfl⟩
theorem qOf_ref {h : IH} {n : Nat} {xs : List D} (e : h[n]? = some (.lst xs)) : qOf h (.ref n) = some xs := lstOf_ref e
@[simp] theorem qOf_fl {h : IH} {xs : List D} : qOf h (.fl xs) = some xs := rfl
@[simp] theorem qOf_tup {h : IH} {xs : List D} : qOf h (.tup xs) = some xs := rfl
end NR

set_option Elab.async false
set_option linter.all false
set_option maxRecDepth 100000
set_option maxHeartbeats 4000000
namespace NR
open PySem PySem.Spec PyProof.Rows L2 Classical
/-! ### a cut that is handed in, looked at -/
theorem pc_isNs {q : Int × Nat × Nat} : (pcD q).isNs = true := rfl
theorem pc_isN3 {q : Int × Nat × Nat} : (pcD q).isN 3 = true := rfl
theorem ints_nb {l : List D} (h : l.all D.isI = true) : (D.tup l).nb 50 = true := by
  have : ∀ d ∈ l, d.nb 49 = true := fun d hd => by
    have := List.all_eq_true.mp h d hd
    cases d <;> first | rfl | cases this
  show l.all (D.nb 49) = true
  exact List.all_eq_true.mpr this
theorem ne_pc {d : D} (hd : d.isNs = true) (q : Int × Nat × Nat) (h : IH) : dEq true d (pcD q) h = .ok (.bl (!decide (d = pcD q))) h := by
  cases d with
  | tup l =>
    rw [dEq_nb (ints_nb hd) (by simp [D.nb, pcD])]
    rfl
  | _ => cases hd
theorem isN_isNs {d : D} (hd : d.isN 3 = true) : d.isNs = true := by
  cases d with
  | tup l =>
    have : (decide (l.length = 3) && l.all D.isI) = true := hd
    rw [Bool.and_eq_true] at this
    exact this.2
  | _ => cases hd
section
variable {h : IH} {ps : List (Int × Nat × Nat)} {l : List D} {m : Nat}
theorem ch_one {x0 x1 x3 x5 x6 : Option D} {i : Nat} {d : D} {q : Int × Nat × Nat} (e1 : l[i]? = some d) (e2 : ps[i]? = some q) (kd : d.kn2 = true) :
    b_cut_holds_1 [x0, x1, some (.fl l), x3, some (.fl (ps.map pcD)), x5, some (.int (i : Nat))] h = if d = pcD q then .nx [x0, x1, some (.fl l), x3, some (.fl (ps.map pcD)), x5, some (.int (i : Nat))] h else .rt (.bl false) h := by
  have k1 : dIx (.fl l) (.int (i : Nat)) h = .ok d h := dIx_nat (xs := l) rfl e1
  have k2 : dIx (.fl (ps.map pcD)) (.int (i : Nat)) h = .ok (pcD q) h := dIx_nat (xs := ps.map pcD) rfl (by rw [List.getElem?_map, e2]; rfl)
  have c := is_numbers_any kd h
  cases b : d.isNs with
  | false =>
    rw [b] at c
    rw [if_neg (fun z => by rw [z, pc_isNs] at b; cases b)]
    unfold b_cut_holds_1
    simp [k1, c]
  | true =>
    rw [b] at c
    have ne := ne_pc b q h
    by_cases z : d = pcD q
    · rw [if_pos z]
      rw [decide_eq_true z] at ne
      unfold b_cut_holds_1
      generalize ps.map pcD = PP at *
      generalize pcD q = P at *
      simp [k1, k2, c, ne]
    · rw [if_neg z]
      rw [decide_eq_false z] at ne
      unfold b_cut_holds_1
      generalize ps.map pcD = PP at *
      generalize pcD q = P at *
      simp [k1, k2, c, ne]
theorem drop_eq {i : Nat} {d : D} {q : Int × Nat × Nat} (e1 : l[i]? = some d) (e2 : ps[i]? = some q) : (l.drop i = (ps.map pcD).drop i) ↔ (d = pcD q ∧ l.drop (i + 1) = (ps.map pcD).drop (i + 1)) := by
  have l1 := (List.getElem?_eq_some_iff.mp e1).1
  have l2 := (List.getElem?_eq_some_iff.mp e2).1
  have a1 : l[i] = d := (List.getElem?_eq_some_iff.mp e1).2
  have a2 : ps[i] = q := (List.getElem?_eq_some_iff.mp e2).2
  rw [List.drop_eq_getElem_cons l1, List.drop_eq_getElem_cons (show i < (ps.map pcD).length by rw [List.length_map]; exact l2), List.getElem_map, a1, a2]
  constructor
  · intro h
    exact ⟨(List.cons.inj h).1, (List.cons.inj h).2⟩
  · rintro ⟨h1, h2⟩
    rw [h1, h2]
theorem ch_loop {x0 x1 x3 x5 : Option D} (kd : ∀ d ∈ l, d.kn2 = true) (ll : l.length = ps.length) : ∀ (n i : Nat) (x6 : Option D), i + n = ps.length →
    ((forL (gSet 6) b_cut_holds_1 (intsFrom (i : Nat) n) [x0, x1, some (.fl l), x3, some (.fl (ps.map pcD)), x5, x6] h).then (msRet (mC (.bl true)))).fin = .ok (.bl (decide (l.drop i = (ps.map pcD).drop i))) h
  | 0, i, x6, hi => by
    rw [List.drop_of_length_le (by omega), List.drop_of_length_le (by rw [List.length_map]; omega)]
    show ((forL _ _ [] _ _).then _).fin = _
    simp
  | n + 1, i, x6, hi => by
    have l1 : i < l.length := by omega
    have l2 : i < ps.length := by omega
    have e1 : l[i]? = some l[i] := List.getElem?_eq_getElem l1
    have e2 : ps[i]? = some ps[i] := List.getElem?_eq_getElem l2
    have kk := kd _ (List.getElem_mem l1)
    generalize l[i] = d at *
    generalize ps[i] = q at *
    have o := ch_one (x0 := x0) (x1 := x1) (x3 := x3) (x5 := x5) (x6 := x6) (h := h) e1 e2 kk
    rw [intsFrom_succ, forL_cons (e1 := [x0, x1, some (.fl l), x3, some (.fl (ps.map pcD)), x5, some (.int (i : Nat))]) rfl, o]
    by_cases z : d = pcD q
    · rw [if_pos z, on_nx, show ((i : Nat) : Int) + 1 = ((i + 1 : Nat) : Int) by omega, ch_loop kd ll n (i + 1) _ (by omega)]
      congr 2
      rw [decide_eq_decide, drop_eq e1 e2]
      exact ⟨fun w => ⟨z, w⟩, fun w => w.2⟩
    · rw [if_neg z, on_rt]
      have : ¬ l.drop i = (ps.map pcD).drop i := fun w => z ((drop_eq e1 e2).mp w).1
      rw [decide_eq_false this]
      rfl
/-- things that can stand for pieces -/
structure PcX (x : D) : Prop where
  kn : x.kn = true
  el : ∀ l, x = .fl l → ∀ d ∈ l, d.kn2 = true ∧ ∀ r, d = .tup r → r.length ≤ 1000
theorem cut_holds_call {T : Tb} (ok : T.Ok) {s : List Nat} (sl : s.length ≤ 1000) (sb : ∀ x ∈ s, x ∈ T.sig) {x y : D} (px : PcX x) (ky : y.kn = true) (h : IH) :
    callC 4 m_cut_holds [T.enc, .str s, x, y] h = .ok (.bl (decide (x = .fl ((T.cutFrom s 0).1.map pcD) ∧ y = .int ((T.cutFrom s 0).2 : Nat)))) h := by
  have cc := cut_call ok (show s.length ≤ 5000 by omega) sb h
  have pl := (cutFrom_len (T := T) (s := s) (n := s.length) (p := 0) (by omega) (by omega)).1
  generalize (T.cutFrom s 0).1 = ps at *
  generalize (T.cutFrom s 0).2 = q at *
  refine callC_same rfl ?_
  have st : msSetT (gSets [4, 5]) (mCall 2 (m_cut) (mCons (mVar 0) (mCons (mVar 1) (mNil)))) [some T.enc, some (.str s), some x, some y, none, none, none] h = .nx [some T.enc, some (.str s), some x, some y, some (.fl (ps.map pcD)), some (.int (q : Nat)), none] h := by
    generalize T.enc = TE at *
    simp [cc, gSets]
  have nc := is_number_call ky h
  unfold m_cut_holds
  rw [ap_fnM]
  simp only [List.map_cons, List.map_nil, List.length_cons, List.length_nil, List.cons_append, List.nil_append, Nat.reduceAdd, Nat.reduceSub, List.replicate]
  refine stN st ?_
  generalize T.enc = TE at *
  by_cases yq : y = .int (q : Nat)
  · subst yq
    have nc : callC 1 m_is_number [D.int (q : Nat)] h = .ok (.bl true) h := nc
    refine stN (env2 := [some TE, some (.str s), some x, some (.int (q : Nat)), some (.fl (ps.map pcD)), some (.int (q : Nat)), none]) (h2 := h) (by simp [nc]) ?_
    have bl : bLen [.fl (ps.map pcD)] h = .ok (.int (ps.length : Nat)) h := by
      show R.ok (D.int ((ps.map pcD).length : Nat)) h = _
      rw [List.length_map]
    cases x with
    | fl l =>
      have kd : ∀ d ∈ l, d.kn2 = true := fun d hd => (px.el l rfl d hd).1
      have b2 : bLen [.fl l] h = .ok (.int (l.length : Nat)) h := by simp
      by_cases ll : l.length = ps.length
      · refine stN (env2 := [some TE, some (.str s), some (.fl l), some (.int (q : Nat)), some (.fl (ps.map pcD)), some (.int (q : Nat)), none]) (h2 := h) (by simp [isT, b2, bl, ll]) ?_
        have lp := ch_loop (x0 := some TE) (x1 := some (.str s)) (x3 := some (.int (q : Nat))) (x5 := some (.int (q : Nat))) (h := h) kd ll ps.length 0 none (by omega)
        rw [List.drop_zero, List.drop_zero] at lp
        rw [ap_msCons, for_st (ds := intsFrom ((0 : Nat) : Int) ps.length) (h2 := h) (iRange1_of (j := (ps.length : Nat)) (k := ps.length) (by simp [bl]) rfl (by omega))]
        refine lp.trans ?_
        congr 2
        rw [decide_eq_decide]
        constructor
        · rintro rfl
          exact ⟨rfl, rfl⟩
        · rintro ⟨z, _⟩
          injection z
      · have ne : ¬ D.fl l = .fl (ps.map pcD) := fun z => by
          injection z with z
          rw [z, List.length_map] at ll
          exact ll rfl
        have l2 : ¬ ((l.length : Nat) : Int) = ((ps.length : Nat) : Int) := by omega
        refine stR ?_
        simp [isT, b2, bl, ll, ne, l2]
    | ref n => cases px.kn
    | exc n => cases px.kn
    | _ =>
      refine stR ?_
      simp [isT]
  · have dq : decide (x = .fl (ps.map pcD) ∧ y = .int (q : Nat)) = false := decide_eq_false fun z => yq z.2
    rw [dq]
    refine stR ?_
    cases yi : y.isI with
    | false => rw [yi] at nc; simp [nc]
    | true =>
      rw [yi] at nc
      cases y with
      | int j =>
        have jq : ¬ j = (q : Nat) := fun z => yq (by rw [z])
        simp [nc, jq]
      | _ => cases yi
end
end NR

set_option Elab.async false
set_option linter.all false
set_option maxRecDepth 100000
set_option maxHeartbeats 4000000
namespace NR
open PySem PySem.Spec PyProof.Rows L2 Classical
section
variable {h : IH} {ps : List (Int × Nat × Nat)} {l : List D} {q0 : Nat}
abbrev dueD (ps : List (Int × Nat × Nat)) (q0 : Nat) : D := .tup [.fl (ps.map pcD), .int (q0 : Nat)]
theorem due0 {h : IH} : dIx (dueD ps q0) (.int 0) h = .ok (.fl (ps.map pcD)) h := rfl
theorem due1 {h : IH} : dIx (dueD ps q0) (.int 1) h = .ok (.int (q0 : Nat)) h := rfl
theorem lh_one {x1 x3 : Option D} {i : Nat} {d : D} {q : Int × Nat × Nat} (e1 : l[i]? = some d) (e2 : ps[i]? = some q) (kd : d.kn2 = true) (dl : ∀ r, d = .tup r → r.length ≤ 1000) :
    b__law_holds_1 [some (.fl l), x1, some (dueD ps q0), some (.int (i : Nat))] h = if d = pcD q then .nx [some (.fl l), x1, some (dueD ps q0), some (.int (i : Nat))] h else .rt (.bl false) h := by
  have k1 : dIx (.fl l) (.int (i : Nat)) h = .ok d h := dIx_nat (xs := l) rfl e1
  have k2 : dIx (.fl (ps.map pcD)) (.int (i : Nat)) h = .ok (pcD q) h := dIx_nat (xs := ps.map pcD) rfl (by rw [List.getElem?_map, e2]; rfl)
  have k0 := due0 (ps := ps) (q0 := q0) (h := h)
  have c := law_numbers_any (n := 3) kd (fun r hr => Nat.le_trans (dl r hr) (by omega)) h
  rw [show ((3 : Nat) : Int) = 3 from rfl] at c
  generalize dueD ps q0 = DD at *
  cases b : d.isN 3 with
  | false =>
    rw [b] at c
    rw [if_neg (fun z => by rw [z, pc_isN3] at b; cases b)]
    unfold b__law_holds_1
    simp [k1, c]
  | true =>
    rw [b] at c
    have ne := ne_pc (isN_isNs b) q h
    by_cases z : d = pcD q
    · rw [if_pos z]
      rw [decide_eq_true z] at ne
      unfold b__law_holds_1
      generalize ps.map pcD = PP at *
      generalize pcD q = P at *
      simp [k0, k1, k2, c, ne]
    · rw [if_neg z]
      rw [decide_eq_false z] at ne
      unfold b__law_holds_1
      generalize ps.map pcD = PP at *
      generalize pcD q = P at *
      simp [k0, k1, k2, c, ne]
theorem lh_loop {x1 : Option D} (kd : ∀ d ∈ l, d.kn2 = true ∧ ∀ r, d = .tup r → r.length ≤ 1000) (ll : l.length = ps.length) : ∀ (n i : Nat) (x3 : Option D), i + n = ps.length →
    ((forL (gSet 3) b__law_holds_1 (intsFrom (i : Nat) n) [some (.fl l), x1, some (dueD ps q0), x3] h).then (msRet (mC (.bl true)))).fin = .ok (.bl (decide (l.drop i = (ps.map pcD).drop i))) h
  | 0, i, x6, hi => by
    rw [List.drop_of_length_le (by omega), List.drop_of_length_le (by rw [List.length_map]; omega)]
    show ((forL _ _ [] _ _).then _).fin = _
    simp
  | n + 1, i, x6, hi => by
    have l1 : i < l.length := by omega
    have l2 : i < ps.length := by omega
    have e1 : l[i]? = some l[i] := List.getElem?_eq_getElem l1
    have e2 : ps[i]? = some ps[i] := List.getElem?_eq_getElem l2
    have kk := kd _ (List.getElem_mem l1)
    generalize l[i] = d at *
    generalize ps[i] = q at *
    have o := lh_one (x1 := x1) (x3 := x6) (q0 := q0) (h := h) e1 e2 kk.1 kk.2
    rw [intsFrom_succ, forL_cons (e1 := [some (.fl l), x1, some (dueD ps q0), some (.int (i : Nat))]) rfl, o]
    by_cases z : d = pcD q
    · rw [if_pos z, on_nx, show ((i : Nat) : Int) + 1 = ((i + 1 : Nat) : Int) by omega, lh_loop kd ll n (i + 1) _ (by omega)]
      congr 2
      rw [decide_eq_decide, drop_eq e1 e2]
      exact ⟨fun w => ⟨z, w⟩, fun w => w.2⟩
    · rw [if_neg z, on_rt]
      have : ¬ l.drop i = (ps.map pcD).drop i := fun w => z ((drop_eq e1 e2).mp w).1
      rw [decide_eq_false this]
      rfl
theorem law_holds_call {x y : D} (px : PcX x) (ky : y.kn = true) (pl : ps.length ≤ 1000) (h : IH) : callC 3 m__law_holds [x, y, dueD ps q0] h = .ok (.bl (decide (x = .fl (ps.map pcD) ∧ y = .int (q0 : Nat)))) h := by
  refine callC_same rfl ?_
  have nc := law_numbers_any (x := .tup [y]) (n := 1) (by show [y].all D.kn = true; simp [ky]) (fun r hr => by injection hr with hr; subst hr; simp) h
  rw [show ((1 : Nat) : Int) = 1 from rfl, show (D.tup [y]).isN 1 = y.isI by simp [D.isN]] at nc
  have k0 := due0 (ps := ps) (q0 := q0) (h := h)
  have k1 := due1 (ps := ps) (q0 := q0) (h := h)
  have lo := lh_loop (ps := ps) (l := match x with | .fl l => l | _ => []) (q0 := q0) (h := h) (x1 := some y)
  unfold m__law_holds
  rw [ap_fnM]
  simp only [List.map_cons, List.map_nil, List.length_cons, List.length_nil, List.cons_append, List.nil_append, Nat.reduceAdd, Nat.reduceSub, List.replicate]
  by_cases yq : y = .int (q0 : Nat)
  · subst yq
    have nc : callC 2 m__law_numbers [D.tup [D.int (q0 : Nat)], D.int 1] h = .ok (.bl true) h := nc
    refine stN (env2 := [some x, some (.int (q0 : Nat)), some (dueD ps q0), none]) (h2 := h) (by
      clear lo
      generalize dueD ps q0 = DD at *
      simp [nc, k1]) ?_
    have bl : bLen [.fl (ps.map pcD)] h = .ok (.int (ps.length : Nat)) h := by
      show R.ok (D.int ((ps.map pcD).length : Nat)) h = _
      rw [List.length_map]
    cases x with
    | fl l =>
      have b2 : bLen [.fl l] h = .ok (.int (l.length : Nat)) h := by simp
      by_cases ll : l.length = ps.length
      · have lp := lo (px.el l rfl) ll ps.length 0 none (by omega)
        dsimp only at lp
        refine stN (env2 := [some (.fl l), some (.int (q0 : Nat)), some (dueD ps q0), none]) (h2 := h) (by
          clear lo lp
          generalize dueD ps q0 = DD at *
          generalize ps.map pcD = PP at *
          simp [isT, b2, bl, ll, k0]) ?_
        rw [List.drop_zero, List.drop_zero] at lp
        rw [ap_msCons, for_st (ds := intsFrom ((0 : Nat) : Int) ps.length) (h2 := h) (iRange1_of (j := (ps.length : Nat)) (k := ps.length) (by
          clear lo lp
          generalize dueD ps q0 = DD at *
          simp [b2, ll]) rfl (by omega))]
        refine lp.trans ?_
        congr 2
        rw [decide_eq_decide]
        constructor
        · rintro rfl
          exact ⟨rfl, rfl⟩
        · rintro ⟨z, _⟩
          injection z
      · have ne : ¬ D.fl l = .fl (ps.map pcD) := fun z => by
          injection z with z
          rw [z, List.length_map] at ll
          exact ll rfl
        have l2 : ¬ ((l.length : Nat) : Int) = ((ps.length : Nat) : Int) := by omega
        refine stR ?_
        clear lo
        generalize dueD ps q0 = DD at *
        generalize ps.map pcD = PP at *
        simp [isT, b2, bl, ll, ne, l2, k0]
    | ref n => cases px.kn
    | exc n => cases px.kn
    | _ =>
      refine stR ?_
      clear lo
      generalize dueD ps q0 = DD at *
      simp [isT]
  · have dq : decide (x = .fl (ps.map pcD) ∧ y = .int (q0 : Nat)) = false := decide_eq_false fun z => yq z.2
    rw [dq]
    refine stR ?_
    clear lo
    generalize dueD ps q0 = DD at *
    cases yi : y.isI with
    | false => rw [yi] at nc; simp [nc]
    | true =>
      rw [yi] at nc
      cases y with
      | int j =>
        have jq : ¬ j = (q0 : Nat) := fun z => yq (by rw [z])
        simp [nc, jq, k1]
      | _ => cases yi
theorem said_call (b : Bool) (h : IH) : callC 2 m__law_said [.bl b, .bl b] h = .ok (.bl true) h := by
  refine callC_same rfl ?_
  unfold m__law_said
  cases b <;> simp [dIsN]
end
end NR

set_option Elab.async false
set_option linter.all false
set_option maxRecDepth 100000
set_option maxHeartbeats 4000000
namespace NR
open PySem PySem.Spec PyProof.Rows L2
/-! ### a piece, spoilt -/
structure PcY (d : D) : Prop where
  k : d.kn2 = true
  l : ∀ r, d = .tup r → r.length ≤ 1000
  s : selfB 49 d = true
  lo : ∀ n, D.lo n d = true
def spO (x : Int) : Nat → D
  | 0 => .non
  | 1 => .fl [.int x]
  | _ => .fd [] []
def spY (x : Int) (v : Nat) : Nat → D
  | 0 => .int (x + 1)
  | 1 => .int (x - 1)
  | 2 => .bl (decide (x = 1))
  | _ => spO x v
def spL (i j : Int) : Nat → D
  | 0 => .tup [.int i, .int j]
  | 1 => .non
  | _ => .int 7
def spP (i j k : Int) (u v w : Nat) : D :=
  if w < 4 then .tup (([.int i, .int j, .int k] : List D).take u ++ [spY ([i, j, k].getD u 0) v w] ++ ([.int i, .int j, .int k] : List D).drop (u + 1))
  else if w = 4 then .tup [.int i, .int j, .int k, .int 0]
  else if w = 5 then .fl [.int i, .int j, .int k]
  else spL i j u
theorem pcy_tup {l : List D} (h1 : ∀ d ∈ l, d.kn = true ∧ selfB 48 d = true ∧ ∀ n, D.lo n d = true) (h2 : l.length ≤ 1000) : PcY (.tup l) :=
  ⟨List.all_eq_true.mpr fun d hd => (h1 d hd).1, fun r hr => by injection hr with hr; rw [← hr]; exact h2, List.all_eq_true.mpr fun d hd => (h1 d hd).2.1, fun n => by
    show D.loL n l = true
    exact loL_of fun d hd => (h1 d hd).2.2 n⟩
theorem spY_ok (x : Int) (v w : Nat) : (spY x v w).kn = true ∧ selfB 48 (spY x v w) = true ∧ ∀ n, D.lo n (spY x v w) = true := by
  unfold spY
  split
  · exact ⟨rfl, rfl, fun _ => rfl⟩
  · exact ⟨rfl, rfl, fun _ => rfl⟩
  · exact ⟨rfl, rfl, fun _ => rfl⟩
  · unfold spO
    split
    · exact ⟨rfl, rfl, fun _ => rfl⟩
    · exact ⟨rfl, rfl, fun _ => rfl⟩
    · exact ⟨rfl, rfl, fun _ => rfl⟩
theorem intD_ok (i : Int) : (D.int i).kn = true ∧ selfB 48 (D.int i) = true ∧ ∀ n, D.lo n (D.int i) = true := ⟨rfl, rfl, fun _ => rfl⟩
theorem ints_ok (i j k : Int) : ∀ d ∈ ([.int i, .int j, .int k] : List D), d.kn = true ∧ selfB 48 d = true ∧ ∀ n, D.lo n d = true := fun d hd => by
  simp only [List.mem_cons, List.not_mem_nil, or_false] at hd
  rcases hd with rfl | rfl | rfl <;> exact intD_ok _
theorem spP_ok (i j k : Int) (u v w : Nat) : PcY (spP i j k u v w) := by
  unfold spP
  split
  · refine pcy_tup (fun d hd => ?_) ?_
    · rw [List.mem_append, List.mem_append, List.mem_singleton] at hd
      rcases hd with (hd | rfl) | hd
      · exact ints_ok i j k d (List.mem_of_mem_take hd)
      · exact spY_ok _ _ _
      · exact ints_ok i j k d (List.mem_of_mem_drop hd)
    · rw [List.length_append, List.length_append, List.length_take, List.length_drop, List.length_singleton]
      simp only [List.length_cons, List.length_nil]
      omega
  · split
    · refine pcy_tup (fun d hd => ?_) (by simp)
      simp only [List.mem_cons, List.not_mem_nil, or_false] at hd
      rcases hd with rfl | rfl | rfl | rfl <;> exact intD_ok _
    · split
      · exact ⟨rfl, fun r hr => by injection hr, rfl, fun n => rfl⟩
      · unfold spL
        split
        · refine pcy_tup (fun d hd => ?_) (by simp)
          simp only [List.mem_cons, List.not_mem_nil, or_false] at hd
          rcases hd with rfl | rfl <;> exact intD_ok _
        · exact ⟨rfl, fun r hr => by injection hr, rfl, fun n => rfl⟩
        · exact ⟨rfl, fun r hr => by injection hr, rfl, fun n => rfl⟩
theorem piece_spoilt_call {b : Nat} {z c : Cell} {g : IH} (hp : Pn (b + 2) c) (q : Int × Nat × Nat) {w : Nat} (hw : w < 7) : ∃ (d : D) (c' : Cell), callC 3 m__law_piece_spoilt [.ref 1, pcD q, .int (w : Nat)] (z :: c :: g) = .ok d (z :: c' :: g) ∧ PcY d ∧ Pn b c' := by
  obtain ⟨u, c1, e1, u1, p1⟩ := draw_call (b := b + 1) (z := z) (c := c) (g := g) (m := 3) hp (by omega) (by omega)
  obtain ⟨v, c2, e2, v1, p2⟩ := draw_call (b := b) (z := z) (c := c1) (g := g) (m := 3) p1 (by omega) (by omega)
  unfold pcD
  generalize q.1 = i
  generalize ((q.2.1 : Nat) : Int) = j
  generalize ((q.2.2 : Nat) : Int) = k
  refine ⟨spP i j k u v w, if w = 3 then c2 else c1, callC_len rfl ?_ (by simp), spP_ok i j k u v w, by split; exact p2; exact p1.mono (by omega)⟩
  generalize hH0 : z :: c :: g = H0 at *
  generalize hH1 : z :: c1 :: g = H1 at *
  generalize hH2 : z :: c2 :: g = H2 at *
  have e3 : (z :: (if w = 3 then c2 else c1) :: g) = if w = 3 then H2 else H1 := by
    split
    · exact hH2
    · exact hH1
  rw [e3]
  have hx : ∀ h : IH, dIx (.tup [.int i, .int j, .int k]) (.int (u : Nat)) h = .ok (.int ([i, j, k].getD u 0)) h := fun h => by
    refine dIx_nat (xs := [.int i, .int j, .int k]) rfl ?_
    have : u = 0 ∨ u = 1 ∨ u = 2 := by omega
    rcases this with rfl | rfl | rfl <;> rfl
  have s1 : ∀ h : IH, sliceD (.tup [.int i, .int j, .int k]) none (some (u : Nat)) h = .ok (.tup (([.int i, .int j, .int k] : List D).take u)) h := fun h => by
    rw [sliceD_tup, cutD_to (by omega)]
    rfl
  have s2 : ∀ h : IH, sliceD (.tup [.int i, .int j, .int k]) (some ((u : Nat) + 1)) none h = .ok (.tup (([.int i, .int j, .int k] : List D).drop (u + 1))) h := fun h => by
    rw [sliceD_tup, cutD_from (by omega)]
    rfl
  have s3 : ∀ h : IH, sliceD (.tup [.int i, .int j, .int k]) none (some 2) h = .ok (.tup [.int i, .int j]) h := fun h => by
    rw [sliceD_tup, cutD_to (by omega)]
    rfl
  have a1 : ∀ (y : D) (h : IH), dAdd (.tup (([.int i, .int j, .int k] : List D).take u)) (.tup [y]) h = .ok (.tup (([.int i, .int j, .int k] : List D).take u ++ [y])) h := fun y h => by
    unfold dAdd
    dsimp only
    rw [if_pos (by rw [List.length_take, List.length_singleton]; simp only [List.length_cons, List.length_nil]; omega)]
  have a2 : ∀ (y : D) (h : IH), dAdd (.tup (([.int i, .int j, .int k] : List D).take u ++ [y])) (.tup (([.int i, .int j, .int k] : List D).drop (u + 1))) h = .ok (.tup (([.int i, .int j, .int k] : List D).take u ++ [y] ++ ([.int i, .int j, .int k] : List D).drop (u + 1))) h := fun y h => by
    unfold dAdd
    dsimp only
    rw [if_pos (by rw [List.length_append, List.length_take, List.length_drop, List.length_singleton]; simp only [List.length_cons, List.length_nil]; omega)]
  have fl : ∀ (y : Int) (h : IH), fzD h h [.int y] = .ok (.fl [.int y]) h := fun y h => fzD_same (loL_of fun d hd => by
    rw [List.mem_singleton] at hd
    rw [hd]
    rfl)
  have co : mFz (mLc (iSeq (mVar 1)) (gSet 4) mYes e__law_piece_spoilt_1 [4]) [some (.ref 1), some (.tup [.int i, .int j, .int k]), some (.int (w : Nat)), some (.int (u : Nat)), none] H1 = .ok (.fl [.int i, .int j, .int k]) H1 := by
    have := lcF_map (env := [some (.ref 1), some (.tup [.int i, .int j, .int k]), some (.int (w : Nat)), some (.int (u : Nat)), none]) (h := H1) (it := iSeq (mVar 1)) (gg := gSet 4) (m := e__law_piece_spoilt_1) (ws := [4]) (ds := [.int i, .int j, .int k]) id rfl (by simp) (fun d hd => (ints_ok i j k d hd).2.2 _) (fun d _ => ⟨_, rfl, fun x => rfl⟩)
    rw [List.map_id] at this
    exact this
  unfold spP spY
  generalize hx0 : [i, j, k].getD u 0 = x at *
  generalize hA : ([.int i, .int j, .int k] : List D).take u = A at *
  generalize hB : ([.int i, .int j, .int k] : List D).drop (u + 1) = B at *
  unfold m__law_piece_spoilt
  rw [ap_fnM]
  simp only [List.map_cons, List.map_nil, List.length_cons, List.length_nil, List.cons_append, List.nil_append, Nat.reduceAdd, Nat.reduceSub, List.replicate]
  refine stN (env2 := [some (.ref 1), some (.tup [.int i, .int j, .int k]), some (.int (w : Nat)), some (.int (u : Nat)), none]) (h2 := H1) (by
    simp [e1]) ?_
  generalize mFz (mLc (iSeq (mVar 1)) (gSet 4) mYes e__law_piece_spoilt_1 [4]) = CO at *
  have w7 : w = 0 ∨ w = 1 ∨ w = 2 ∨ w = 3 ∨ w = 4 ∨ w = 5 ∨ w = 6 := by omega
  rcases w7 with rfl | rfl | rfl | rfl | rfl | rfl | rfl
  · simp [hx, s1, s2, a1, a2]
  · simp [hx, s1, s2, a1, a2]
  · simp [hx, s1, s2, a1, a2]
  · have v3 : v = 0 ∨ v = 1 ∨ v = 2 := by omega
    have ix : ∀ h : IH, dIx (.tup [.non, .fl [.int x], .fd [] []]) (.int (v : Nat)) h = .ok (spO x v) h := fun h => by
      refine dIx_nat (xs := [.non, .fl [.int x], .fd [] []]) rfl ?_
      rcases v3 with rfl | rfl | rfl <;> rfl
    generalize spO x v = SO at *
    simp [hx, s1, s2, a1, a2, e2, ix, newL_bind, fz_newL, fl]
  · simp [dAdd_tup]
  · rw [show ((5 : Nat) : Int) = 5 from rfl] at *
    simp [co]
  · have ix : dIx (.tup [.tup [.int i, .int j], .non, .int 7]) (.int (u : Nat)) H1 = .ok (spL i j u) H1 := by
      refine dIx_nat (xs := [.tup [.int i, .int j], .non, .int 7]) rfl ?_
      have : u = 0 ∨ u = 1 ∨ u = 2 := by omega
      rcases this with rfl | rfl | rfl <;> rfl
    simp [s3, ix]
end NR

set_option Elab.async false
set_option linter.all false
set_option maxRecDepth 100000
set_option maxHeartbeats 4000000
namespace NR
open PySem PySem.Spec PyProof.Rows L2
/-! ### the pieces, spoilt -/
theorem pcy_pc (q : Int × Nat × Nat) : PcY (pcD q) := pcy_tup (fun d hd => ints_ok _ _ _ d hd) (by simp)
theorem dEq_pcs0 {ps : List (Int × Nat × Nat)} {n : Nat} {h : IH} (e : h[n]? = some (.lst (ps.map pcD))) : dEq false (.ref n) (.fl []) h = .ok (.bl (decide (ps = []))) h := by
  have p1 : D.pl 50 (.fl (ps.map pcD)) = true := by
    rw [pl_fl]
    refine pl_all fun d hd => ?_
    obtain ⟨x, _, rfl⟩ := List.mem_map.mp hd
    rfl
  have p2 : D.pl 50 (.fl []) = true := by rw [pl_fl]; rfl
  rw [dEq_ref e, dEq_pl p1 p2]
  cases ps with
  | nil => simp
  | cons a l => simp [D.nm, D.nmL]
/-- what comes of it -/
structure PcZ (x : D) : Prop where
  p : PcX x
  s : selfB 50 x = true
  lo : ∀ n, D.lo n x = true
theorem pcz_fl {l : List D} (h : ∀ d ∈ l, PcY d) : PcZ (.fl l) :=
  ⟨⟨rfl, fun l2 e d hd => by injection e with e; subst e; exact ⟨(h d hd).k, (h d hd).l⟩⟩, List.all_eq_true.mpr fun d hd => (h d hd).s, fun n => by
    show D.loL n l = true
    exact loL_of fun d hd => (h d hd).lo n⟩
theorem pcz_tup {l : List D} (h : ∀ d ∈ l, PcY d) : PcZ (.tup l) :=
  ⟨⟨rfl, fun l2 e => by cases e⟩, List.all_eq_true.mpr fun d hd => (h d hd).s, fun n => by
    show D.loL n l = true
    exact loL_of fun d hd => (h d hd).lo n⟩
theorem pcz_at {x : D} (h1 : x.kn = true) (h2 : selfB 50 x = true) (h3 : ∀ n, D.lo n x = true) (h4 : ∀ l, x ≠ .fl l) : PcZ x := ⟨⟨h1, fun l e => absurd e (h4 l)⟩, h2, h3⟩
section
variable {z c : Cell} {g : IH} {ps : List (Int × Nat × Nat)}
abbrev psE (ps : List (Int × Nat × Nat)) (n : Nat) (w u : Nat) (x5 x6 x7 : Option D) : EV := [some (.ref 1), some (.fl (ps.map pcD)), some (.int (w : Nat)), some (.ref n), some (.int (u : Nat)), x5, x6, x7]
abbrev psH (z c : Cell) (g : IH) (l : List D) (R : IH) : IH := z :: c :: (g ++ .lst l :: R)
theorem psH_at {l : List D} {R : IH} : (psH z c g l R)[(z :: c :: g).length]? = some (.lst l) := by
  show ((z :: c :: g) ++ Cell.lst l :: R)[(z :: c :: g).length]? = _
  exact get_app0
theorem psH_set {l : List D} {x : Cell} {R : IH} : (psH z c g l R).set (z :: c :: g).length x = z :: c :: (g ++ x :: R) := by
  show ((z :: c :: g) ++ Cell.lst l :: R).set (z :: c :: g).length x = _
  rw [set_app0]
  rfl
theorem psH_new {l : List D} {x : Cell} {R : IH} : psH z c g l R ++ [x] = psH z c g l (R ++ [x]) := by simp
noncomputable def me9 : ME := mLst (mCons (mTup (mCons (mVar 5) (mCons (mVar 6) (mCons (mOp dAdd (mVar 6) (mOp dDiv (mOp dSub (mVar 7) (mVar 6)) (mC (.int 2)))) (mNil))))) (mCons (mTup (mCons (mVar 5) (mCons (mOp dAdd (mVar 6) (mOp dDiv (mOp dSub (mVar 7) (mVar 6)) (mC (.int 2)))) (mCons (mVar 7) (mNil))))) (mNil)))
noncomputable def me10 : ME := mLst (mCons (mTup (mCons (mOp dIx (mOp dIx (mVar 3) (mVar 4)) (mC (.int 0))) (mCons (mOp dIx (mOp dIx (mVar 3) (mVar 4)) (mC (.int 1))) (mCons (mOp dIx (mOp dIx (mVar 3) (mOp dAdd (mVar 4) (mC (.int 1)))) (mC (.int 2))) (mNil))))) (mNil))
noncomputable def ps9 : MS := msCons (msSetT (gSets [5, 6, 7]) (mOp dIx (mVar 3) (mVar 4))) (msSetSl (mVar 3) (moSome (mVar 4)) (moSome (mOp dAdd (mVar 4) (mC (.int 1)))) me9)
noncomputable def ps10 : MS := msSetSl (mVar 3) (moSome (mVar 4)) (moSome (mOp dAdd (mVar 4) (mC (.int 2)))) me10
theorem setSl_at {mo me : ME} {m1 m2 : MO} {env : EV} {h : IH} {n a b : Nat} {l ys : List D} (e : me env h = .ok (.ref h.length) (h ++ [.lst ys])) (e0 : ∀ H, mo env H = .ok (.ref n) H) (e1 : ∀ H, m1 env H = .ok (some ((a : Nat) : Int)) H) (e2 : ∀ H, m2 env H = .ok (some ((b : Nat) : Int)) H) (hn : h[n]? = some (.lst l)) (ab : a ≤ b) (bl : b ≤ l.length) (z : l.length + ys.length ≤ 10000000) : msSetSl mo m1 m2 me env h = .nx env ((h ++ [Cell.lst ys]).set n (.lst (l.take a ++ ys ++ l.drop b))) := by
  have nl := (List.getElem?_eq_some_iff.mp hn).1
  have h1 : (h ++ [Cell.lst ys])[n]? = some (.lst l) := by rw [List.getElem?_append_left nl]; exact hn
  have h2 : (h ++ [Cell.lst ys])[h.length]? = some (.lst ys) := get_last
  rw [ap_msSetSl, e, bindS_ok, e0, bindS_ok, e1, bindS_ok, e2, bindS_ok]
  dsimp only
  rw [h1, h2]
  dsimp only
  rw [if_pos ⟨by omega, by omega, by omega, by omega, z⟩]
  rfl
noncomputable def psS : MS := msIf (mTb (mOp dLt (mVar 2) (mC (.int 7)))) (msSetI (mVar 3) (mVar 4) (mCall 3 (m__law_piece_spoilt) (mCons (mVar 0) (mCons (mOp dIx (mVar 3) (mVar 4)) (mCons (mVar 2) (mNil)))))) (msIf (mTb (mOp (dEq false) (mVar 2) (mC (.int 7)))) (msExpr (mMeth "list" fPopAt (mVar 3) (mCons (mVar 4) (mNil)))) (msIf (mTb (mOp (dEq false) (mVar 2) (mC (.int 8)))) (msExpr (mMeth "list" fInsert (mVar 3) (mCons (mVar 4) (mCons (mOp dIx (mVar 3) (mVar 4)) (mNil))))) (msIf (mTb (mOp (dEq false) (mVar 2) (mC (.int 9)))) ps9 (msIf (mAnd (mTb (mOp (dEq false) (mVar 2) (mC (.int 10)))) (mTb (mOp dLt (mOp dAdd (mVar 4) (mC (.int 1))) (mB bLen (mCons (mVar 3) (mNil)))))) ps10 (msIf (mTb (mOp (dEq false) (mVar 2) (mC (.int 11)))) (msRet (mB bTupleX (mCons (mVar 3) (mNil)))) (msNil))))))
theorem m_ps : m__law_pieces_spoilt = fnM 8 (msCons (msSet 3 (mB bListX (mCons (mVar 1) (mNil))))
    (msCons (msSet 4 (mCall 2 (m__law_draw) (mCons (mVar 0) (mCons (mB bMax2 (mCons (mC (.int 1)) (mCons (mB bLen (mCons (mVar 3) (mNil))) (mNil)))) (mNil)))))
    (msCons (msIf (mOr (mTb (mOp (dEq false) (mVar 2) (mC (.int 12)))) (mTb (mOp (dEq false) (mVar 3) (mFz (mLst (mNil)))))) (msRet (mFz (mOp dAdd (mVar 3) (mFz (mLst (mCons (mTup (mCons (mC (.int 0)) (mCons (mC (.int 0)) (mCons (mC (.int 1)) (mNil))))) (mNil))))))) (msNil))
    (msCons psS (msFz 3 (msRet (mVar 3))))))) := rfl
theorem slc1 {l ys : List D} : (psH z c g l [] ++ [Cell.lst ys])[(z :: c :: g).length]? = some (.lst l) := by rw [psH_new]; exact psH_at
theorem slc2 {l ys : List D} : (psH z c g l [] ++ [Cell.lst ys])[(psH z c g l []).length]? = some (.lst ys) := get_last
theorem slc {l ys : List D} {a b : Nat} : (psH z c g l [] ++ [Cell.lst ys]).set (z :: c :: g).length (.lst (l.take a ++ ys ++ l.drop b)) = psH z c g (l.take a ++ ys ++ l.drop b) [.lst ys] := by
  rw [psH_new]
  exact psH_set
theorem ps_step {b : Nat} (hp : Pn (b + 2) c) {w u : Nat} (hw : w < 12) (hu : u < ps.length) (pl : ps.length ≤ 1000) :
    (∃ l' R c' y5 y6 y7, psS (psE ps (z :: c :: g).length w u none none none) (psH z c g (ps.map pcD) []) = .nx (psE ps (z :: c :: g).length w u y5 y6 y7) (psH z c' g l' R) ∧ (∀ d ∈ l', PcY d) ∧ Pn b c') ∨ psS (psE ps (z :: c :: g).length w u none none none) (psH z c g (ps.map pcD) []) = .rt (.tup (ps.map pcD)) (psH z c g (ps.map pcD) []) := by
  have al : ∀ d ∈ ps.map pcD, PcY d := fun d hd => by
    obtain ⟨q, _, rfl⟩ := List.mem_map.mp hd
    exact pcy_pc q
  have hq : (ps.map pcD)[u]? = some (pcD ps[u]) := by rw [List.getElem?_map, List.getElem?_eq_getElem hu]; rfl
  have LL : (ps.map pcD).length = ps.length := List.length_map _
  generalize ps[u] = q at hq
  have at0 : ∀ (c : Cell) (R : IH), (psH z c g (ps.map pcD) R)[(z :: c :: g).length]? = some (.lst (ps.map pcD)) := fun c R => psH_at
  have ix : dIx (.ref (z :: c :: g).length) (.int (u : Nat)) (psH z c g (ps.map pcD) []) = .ok (pcD q) (psH z c g (ps.map pcD) []) := dIx_nat (seqOf_ref (at0 c [])) hq
  have ty := tyD_ref (at0 c [])
  have hix : ixN ps.length (u : Nat) = some u := ixN_toNat (by omega) (by omega)
  by_cases w7 : w < 7
  · left
    obtain ⟨d, c1, e1, y1, p1⟩ := piece_spoilt_call (b := b) (z := z) (c := c) (g := g ++ [.lst (ps.map pcD)]) hp q w7
    have e9 : callC 3 m__law_piece_spoilt [.ref 1, pcD q, .int (w : Nat)] (psH z c g (ps.map pcD) []) = .ok d (psH z c1 g (ps.map pcD) []) := e1
    clear e1
    have pu : putD (.ref (z :: c :: g).length) (.int (u : Nat)) d (psH z c1 g (ps.map pcD) []) = some (psH z c1 g ((ps.map pcD).set u d) []) := by
      unfold putD
      dsimp only
      rw [show (psH z c1 g (ps.map pcD) [])[(z :: c :: g).length]? = some (.lst (ps.map pcD)) from at0 c1 []]
      dsimp only
      rw [LL, hix, Option.map_some]
      exact congrArg some psH_set
    refine ⟨(ps.map pcD).set u d, [], c1, none, none, none, ?_, fun x hx => ?_, p1⟩
    · have w7' : ((w : Nat) : Int) < 7 := by omega
      unfold psS psE
      generalize psH z c1 g ((ps.map pcD).set u d) [] = H3 at *
      generalize psH z c1 g (ps.map pcD) [] = H2 at *
      generalize psH z c g (ps.map pcD) [] = H1 at *
      generalize (z :: c :: g).length = N at *
      generalize pcD q = Q at *
      generalize ps.map pcD = PP at *
      simp [w7', ix, e9, pu]
    · rcases List.mem_or_eq_of_mem_set hx with hx | rfl
      · exact al x hx
      · exact y1
  have w5 : w = 7 ∨ w = 8 ∨ w = 9 ∨ w = 10 ∨ w = 11 := by omega
  have p0 : Pn b c := hp.mono (by omega)
  rcases w5 with rfl | rfl | rfl | rfl | rfl
  · left
    have pu : fPopAt (.ref (z :: c :: g).length) [.int (u : Nat)] (psH z c g (ps.map pcD) []) = .ok (pcD q) (psH z c g ((ps.map pcD).eraseIdx u) []) := by
      unfold fPopAt
      dsimp only
      rw [at0 c []]
      dsimp only
      rw [LL, hix]
      dsimp only
      rw [hq]
      dsimp only
      rw [if_pos (by omega)]
      exact congrArg (R.ok _) psH_set
    refine ⟨(ps.map pcD).eraseIdx u, [], c, none, none, none, ?_, fun x hx => al x (List.mem_of_mem_eraseIdx hx), p0⟩
    unfold psS psE
    generalize psH z c g ((ps.map pcD).eraseIdx u) [] = H2 at *
    generalize psH z c g (ps.map pcD) [] = H1 at *
    generalize (z :: c :: g).length = N at *
    generalize pcD q = Q at *
    generalize ps.map pcD = PP at *
    simp [ty, pu]
  · left
    have pu : fInsert (.ref (z :: c :: g).length) [.int (u : Nat), pcD q] (psH z c g (ps.map pcD) []) = .ok .non (psH z c g ((ps.map pcD).take u ++ [pcD q] ++ (ps.map pcD).drop u) []) := by
      unfold fInsert
      dsimp only
      rw [at0 c []]
      dsimp only
      rw [if_pos (by rw [LL]; omega)]
      exact congrArg (R.ok _) psH_set
    refine ⟨(ps.map pcD).take u ++ [pcD q] ++ (ps.map pcD).drop u, [], c, none, none, none, ?_, fun x hx => ?_, p0⟩
    · unfold psS psE
      generalize psH z c g ((ps.map pcD).take u ++ [pcD q] ++ (ps.map pcD).drop u) [] = H2 at *
      generalize psH z c g (ps.map pcD) [] = H1 at *
      generalize (z :: c :: g).length = N at *
      generalize pcD q = Q at *
      generalize ps.map pcD = PP at *
      simp [ty, pu, ix]
    · rw [List.mem_append, List.mem_append, List.mem_singleton] at hx
      rcases hx with (hx | rfl) | hx
      · exact al x (List.mem_of_mem_take hx)
      · exact pcy_pc q
      · exact al x (List.mem_of_mem_drop hx)
  · left
    obtain ⟨y1, y2, y3⟩ := q
    have eq : pcD (y1, y2, y3) = .tup [.int y1, .int (y2 : Nat), .int (y3 : Nat)] := rfl
    rw [eq] at ix
    have r : psS (psE ps (z :: c :: g).length 9 u none none none) (psH z c g (ps.map pcD) []) = ps9 (psE ps (z :: c :: g).length 9 u none none none) (psH z c g (ps.map pcD) []) := by
      unfold psS psE
      generalize psH z c g (ps.map pcD) [] = H1 at *
      generalize (z :: c :: g).length = N at *
      generalize ps.map pcD = PP at *
      simp
    have cd : ∀ i : Int, cDiv i 2 = true := fun i => by unfold cDiv; simp
    have e9 : me9 (psE ps (z :: c :: g).length 9 u (some (.int y1)) (some (.int (y2 : Nat))) (some (.int (y3 : Nat)))) (psH z c g (ps.map pcD) []) = .ok (.ref (psH z c g (ps.map pcD) []).length) (psH z c g (ps.map pcD) [] ++ [.lst [.tup [.int y1, .int (y2 : Nat), .int ((y2 : Nat) + (((y3 : Nat) : Int) - (y2 : Nat)) / 2)], .tup [.int y1, .int ((y2 : Nat) + (((y3 : Nat) : Int) - (y2 : Nat)) / 2), .int (y3 : Nat)]]]) := by
      unfold me9 psE
      generalize psH z c g (ps.map pcD) [] = H1 at *
      generalize (z :: c :: g).length = N at *
      generalize ps.map pcD = PP at *
      simp [cd, newL]
    refine ⟨(ps.map pcD).take u ++ [.tup [.int y1, .int (y2 : Nat), .int ((y2 : Nat) + (((y3 : Nat) : Int) - (y2 : Nat)) / 2)], .tup [.int y1, .int ((y2 : Nat) + (((y3 : Nat) : Int) - (y2 : Nat)) / 2), .int (y3 : Nat)]] ++ (ps.map pcD).drop (u + 1), [.lst [.tup [.int y1, .int (y2 : Nat), .int ((y2 : Nat) + (((y3 : Nat) : Int) - (y2 : Nat)) / 2)], .tup [.int y1, .int ((y2 : Nat) + (((y3 : Nat) : Int) - (y2 : Nat)) / 2), .int (y3 : Nat)]]], c, some (.int y1), some (.int (y2 : Nat)), some (.int (y3 : Nat)), ?_, ?_, p0⟩
    · rw [r]
      unfold ps9
      refine stS (env2 := psE ps (z :: c :: g).length 9 u (some (.int y1)) (some (.int (y2 : Nat))) (some (.int (y3 : Nat)))) (h2 := psH z c g (ps.map pcD) []) (by
        clear e9 r
        unfold psE
        generalize psH z c g (ps.map pcD) [] = H1 at *
        generalize (z :: c :: g).length = N at *
        generalize ps.map pcD = PP at *
        simp [ix, gSets]) ?_
      rw [setSl_at (n := (z :: c :: g).length) (a := u) (b := u + 1) (l := ps.map pcD) e9 (fun H => rfl) (fun H => rfl) (fun H => rfl) (at0 c []) (by omega) (by rw [LL]; omega) (by rw [LL]; simp; omega), slc]
    · intro x hx
      rw [List.mem_append, List.mem_append] at hx
      rcases hx with (hx | hx) | hx
      · exact al x (List.mem_of_mem_take hx)
      · simp only [List.mem_cons, List.not_mem_nil, or_false] at hx
        rcases hx with rfl | rfl <;> exact pcy_tup (fun d hd => ints_ok _ _ _ d hd) (by simp)
      · exact al x (List.mem_of_mem_drop hx)
  · left
    by_cases u2 : u + 1 < ps.length
    · have hq2 : (ps.map pcD)[u + 1]? = some (pcD ps[u + 1]) := by rw [List.getElem?_map, List.getElem?_eq_getElem u2]; rfl
      generalize ps[u + 1] = q2 at hq2
      have ix2 : dIx (.ref (z :: c :: g).length) (.int ((u : Nat) + 1)) (psH z c g (ps.map pcD) []) = .ok (pcD q2) (psH z c g (ps.map pcD) []) := dIx_nat (n := u + 1) (seqOf_ref (at0 c [])) hq2
      have bl := bLen_ref (at0 c [])
      rw [LL] at bl
      have r : psS (psE ps (z :: c :: g).length 10 u none none none) (psH z c g (ps.map pcD) []) = ps10 (psE ps (z :: c :: g).length 10 u none none none) (psH z c g (ps.map pcD) []) := by
        have u2' : ((u : Nat) : Int) + 1 < ((ps.length : Nat) : Int) := by omega
        unfold psS psE
        generalize psH z c g (ps.map pcD) [] = H1 at *
        generalize (z :: c :: g).length = N at *
        generalize ps.map pcD = PP at *
        simp [bl, u2']
      have d0 : ∀ (q : Int × Nat × Nat) (h : IH), dIx (pcD q) (.int 0) h = .ok (.int q.1) h := fun _ _ => rfl
      have d1 : ∀ (q : Int × Nat × Nat) (h : IH), dIx (pcD q) (.int 1) h = .ok (.int (q.2.1 : Nat)) h := fun _ _ => rfl
      have d2 : ∀ (q : Int × Nat × Nat) (h : IH), dIx (pcD q) (.int 2) h = .ok (.int (q.2.2 : Nat)) h := fun _ _ => rfl
      have e9 : me10 (psE ps (z :: c :: g).length 10 u none none none) (psH z c g (ps.map pcD) []) = .ok (.ref (psH z c g (ps.map pcD) []).length) (psH z c g (ps.map pcD) [] ++ [.lst [.tup [.int q.1, .int (q.2.1 : Nat), .int (q2.2.2 : Nat)]]]) := by
        have dd0 := d0 q
        have dd1 := d1 q
        have dd2 := d2 q2
        clear r d0 d1 d2
        unfold me10 psE
        generalize pcD q = Q1 at *
        generalize pcD q2 = Q2 at *
        generalize psH z c g (ps.map pcD) [] = H1 at *
        generalize (z :: c :: g).length = N at *
        generalize ps.map pcD = PP at *
        simp [ix, ix2, dd0, dd1, dd2, newL]
      refine ⟨(ps.map pcD).take u ++ [.tup [.int q.1, .int (q.2.1 : Nat), .int (q2.2.2 : Nat)]] ++ (ps.map pcD).drop (u + 2), [.lst [.tup [.int q.1, .int (q.2.1 : Nat), .int (q2.2.2 : Nat)]]], c, none, none, none, ?_, ?_, p0⟩
      · rw [r]
        unfold ps10
        rw [setSl_at (n := (z :: c :: g).length) (a := u) (b := u + 2) (l := ps.map pcD) e9 (fun H => rfl) (fun H => rfl) (fun H => rfl) (at0 c []) (by omega) (by rw [LL]; omega) (by rw [LL]; simp; omega), slc]
      · intro x hx
        rw [List.mem_append, List.mem_append] at hx
        rcases hx with (hx | hx) | hx
        · exact al x (List.mem_of_mem_take hx)
        · simp only [List.mem_cons, List.not_mem_nil, or_false] at hx
          rw [hx]
          exact pcy_tup (fun d hd => ints_ok _ _ _ d hd) (by simp)
        · exact al x (List.mem_of_mem_drop hx)
    · have bl := bLen_ref (at0 c [])
      rw [LL] at bl
      have u2' : ¬ ((u : Nat) : Int) + 1 < ((ps.length : Nat) : Int) := by omega
      refine ⟨ps.map pcD, [], c, none, none, none, ?_, al, p0⟩
      unfold psS psE
      generalize psH z c g (ps.map pcD) [] = H1 at *
      generalize (z :: c :: g).length = N at *
      generalize ps.map pcD = PP at *
      simp [bl, u2']
  · right
    have bt := bTupleX_ref (at0 c [])
    unfold psS psE
    generalize psH z c g (ps.map pcD) [] = H1 at *
    generalize (z :: c :: g).length = N at *
    generalize ps.map pcD = PP at *
    simp [bt]
end
end NR

set_option Elab.async false
set_option linter.all false
set_option maxRecDepth 100000
set_option maxHeartbeats 4000000
namespace NR
open PySem PySem.Spec PyProof.Rows L2
section
variable {z c : Cell} {g : IH} {ps : List (Int × Nat × Nat)}
theorem pieces_spoilt_call {b : Nat} (hp : Pn (b + 3) c) {w : Nat} (hw : w < 13) (pl : ps.length ≤ 1000) : ∃ (x : D) (c' : Cell), callC 3 m__law_pieces_spoilt [.ref 1, .fl (ps.map pcD), .int (w : Nat)] (z :: c :: g) = .ok x (z :: c' :: g) ∧ PcZ x ∧ Pn b c' := by
  have al : ∀ d ∈ ps.map pcD, PcY d := fun d hd => by
    obtain ⟨q, _, rfl⟩ := List.mem_map.mp hd
    exact pcy_pc q
  have LL : (ps.map pcD).length = ps.length := List.length_map _
  have at0 : ∀ (c : Cell) (R : IH), (psH z c g (ps.map pcD) R)[(z :: c :: g).length]? = some (.lst (ps.map pcD)) := fun c R => psH_at
  obtain ⟨u, c1, e1, u1, p1⟩ := draw_call (b := b + 2) (z := z) (c := c) (g := g ++ [.lst (ps.map pcD)]) (m := (if ((ps.length : Nat) : Int) > 1 then ((ps.length : Nat) : Int) else 1)) hp (by split <;> omega) (by split <;> omega)
  have e9 : callC 2 m__law_draw [.ref 1, .int (if ((ps.length : Nat) : Int) > 1 then ((ps.length : Nat) : Int) else 1)] (psH z c g (ps.map pcD) []) = .ok (.int (u : Nat)) (psH z c1 g (ps.map pcD) []) := e1
  clear e1
  have N1 : (z :: c1 :: g).length = (z :: c :: g).length := rfl
  have st3 : msSet 3 (mB bListX (mCons (mVar 1) (mNil))) [some (.ref 1), some (.fl (ps.map pcD)), some (.int (w : Nat)), none, none, none, none, none] (z :: c :: g) = .nx [some (.ref 1), some (.fl (ps.map pcD)), some (.int (w : Nat)), some (.ref (z :: c :: g).length), none, none, none, none] (psH z c g (ps.map pcD) []) := by
    generalize ps.map pcD = PP at *
    simp [bListX_fl, newL]
  have bl := bLen_ref (at0 c [])
  rw [LL] at bl
  have st4 : msSet 4 (mCall 2 (m__law_draw) (mCons (mVar 0) (mCons (mB bMax2 (mCons (mC (.int 1)) (mCons (mB bLen (mCons (mVar 3) (mNil))) (mNil)))) (mNil)))) [some (.ref 1), some (.fl (ps.map pcD)), some (.int (w : Nat)), some (.ref (z :: c :: g).length), none, none, none, none] (psH z c g (ps.map pcD) []) = .nx (psE ps (z :: c :: g).length w u none none none) (psH z c1 g (ps.map pcD) []) := by
    clear st3
    unfold psE
    generalize psH z c1 g (ps.map pcD) [] = H2 at *
    generalize psH z c g (ps.map pcD) [] = H1 at *
    generalize (z :: c :: g).length = N at *
    generalize ps.map pcD = PP at *
    simp only [ap_msSet, ap_mCall, ap_mCons, ap_mNil, ap_mVar, ap_mB, ap_mC, List.getElem?_cons_zero, List.getElem?_cons_succ, bind_ok, bl, bMax2_int, e9, bindS_ok]
    rfl
  have dq := dEq_pcs0 (at0 c1 [])
  have fin : ∀ (env : EV) (H : IH) (r : R D), (msCons (msIf (mOr (mTb (mOp (dEq false) (mVar 2) (mC (.int 12)))) (mTb (mOp (dEq false) (mVar 3) (mFz (mLst (mNil)))))) (msRet (mFz (mOp dAdd (mVar 3) (mFz (mLst (mCons (mTup (mCons (mC (.int 0)) (mCons (mC (.int 0)) (mCons (mC (.int 1)) (mNil))))) (mNil))))))) (msNil)) (msCons psS (msFz 3 (msRet (mVar 3)))) (psE ps (z :: c :: g).length w u none none none) (psH z c1 g (ps.map pcD) [])).fin = r → m__law_pieces_spoilt [.ref 1, .fl (ps.map pcD), .int (w : Nat)] (z :: c :: g) = r := fun env H r h => by
    rw [m_ps, ap_fnM]
    simp only [List.map_cons, List.map_nil, List.length_cons, List.length_nil, List.cons_append, List.nil_append, Nat.reduceAdd, Nat.reduceSub, List.replicate]
    exact stN st3 (stN st4 h)
  by_cases q : w = 12 ∨ ps = []
  · -- one put behind
    have ad : dAdd (.ref (z :: c :: g).length) (.fl [.tup [.int 0, .int 0, .int 1]]) (psH z c1 g (ps.map pcD) []) = .ok (.ref (psH z c1 g (ps.map pcD) []).length) (psH z c1 g (ps.map pcD) [] ++ [.lst (ps.map pcD ++ [.tup [.int 0, .int 0, .int 1]])]) := by
      unfold dAdd
      dsimp only
      have : lsOf (psH z c1 g (ps.map pcD) []) (.ref (z :: c :: g).length) = some (ps.map pcD) := by
        unfold lsOf
        dsimp only
        rw [show (psH z c1 g (ps.map pcD) [])[(z :: c :: g).length]? = some (.lst (ps.map pcD)) from at0 c1 []]
      rw [this]
      show (if (ps.map pcD).length + 1 ≤ 10000000 then _ else _) = _
      rw [if_pos (by rw [LL]; omega)]
    have all2 : ∀ d ∈ ps.map pcD ++ [.tup [.int 0, .int 0, .int 1]], PcY d := fun d hd => by
      rcases List.mem_append.mp hd with hd | hd
      · exact al d hd
      · rw [List.mem_singleton] at hd
        rw [hd]
        exact pcy_tup (fun d hd => ints_ok _ _ _ d hd) (by simp)
    refine ⟨.fl (ps.map pcD ++ [.tup [.int 0, .int 0, .int 1]]), c1, callC_pen (g' := [.lst (ps.map pcD)]) rfl (fin [] [] _ ?_) (fun k _ => (pcz_fl all2).lo k) (fun k _ => p1.lo k), pcz_fl all2, p1.mono (by omega)⟩
    have f1 : mFz (mLst (mCons (mTup (mCons (mC (.int 0)) (mCons (mC (.int 0)) (mCons (mC (.int 1)) (mNil))))) (mNil))) (psE ps (z :: c :: g).length w u none none none) (psH z c1 g (ps.map pcD) []) = .ok (.fl [.tup [.int 0, .int 0, .int 1]]) (psH z c1 g (ps.map pcD) []) := by
      have fl : ∀ h : IH, fzD h h [.tup [.int 0, .int 0, .int 1]] = .ok (.fl [.tup [.int 0, .int 0, .int 1]]) h := fun h => fzD_same (loL_of fun d hd => by
        rw [List.mem_singleton] at hd
        rw [hd]
        rfl)
      generalize psH z c1 g (ps.map pcD) [] = H1 at *
      simp [newL_bind, fz_newL, fl]
    have f2 : mFz (mOp dAdd (mVar 3) (mFz (mLst (mCons (mTup (mCons (mC (.int 0)) (mCons (mC (.int 0)) (mCons (mC (.int 1)) (mNil))))) (mNil))))) (psE ps (z :: c :: g).length w u none none none) (psH z c1 g (ps.map pcD) []) = .ok (.fl (ps.map pcD ++ [.tup [.int 0, .int 0, .int 1]])) (psH z c1 g (ps.map pcD) []) := by
      generalize psH z c1 g (ps.map pcD) [] = H1 at *
      rw [ap_mFz0, ap_mOp, ap_mVar]
      show fzR _ (R.bind (R.ok (D.ref (z :: c :: g).length) _) _) = _
      rw [bind_ok, f1, bind_ok, ad, fzR_at get_last (Nat.le_refl _) (loL_of fun x hx => (all2 x hx).lo _) okB_self, List.take_left]
    refine stR ?_
    generalize mFz (mOp dAdd (mVar 3) (mFz (mLst (mCons (mTup (mCons (mC (.int 0)) (mCons (mC (.int 0)) (mCons (mC (.int 1)) (mNil))))) (mNil))))) = F2 at *
    have f0 : mFz (mLst mNil) (psE ps (z :: c :: g).length w u none none none) (psH z c1 g (ps.map pcD) []) = .ok (.fl []) (psH z c1 g (ps.map pcD) []) := by
      have fl : ∀ h : IH, fzD h h [] = .ok (.fl []) h := fun h => fzD_same (by simp [D.loL])
      generalize psH z c1 g (ps.map pcD) [] = H1 at *
      simp [newL_bind, fz_newL, fl]
    generalize mFz (mLst mNil) = F0 at *
    have de := dq
    rw [show (z :: c1 :: g).length = (z :: c :: g).length from rfl] at de
    clear dq st4 st3 fin f1 ad e9
    unfold psE at *
    generalize hH1 : psH z c1 g (ps.map pcD) [] = H1 at *
    have hH2 : z :: c1 :: (g ++ [Cell.lst (ps.map pcD)]) = H1 := hH1
    rw [hH2]
    clear hH1 hH2 at0 bl all2 al LL
    generalize (z :: c :: g).length = N at *
    generalize ps.map pcD = PP at *
    by_cases w12 : w = 12
    · subst w12
      rw [show ((12 : Nat) : Int) = 12 from rfl] at *
      simp [f2]
    · have w12' : ¬ ((w : Nat) : Int) = 12 := by omega
      have pe := q.resolve_left w12
      rw [decide_eq_true pe] at de
      simp [w12', f0, de, f2]
  · rw [not_or] at q
    have hu : u < ps.length := by
      have : ps.length ≠ 0 := fun e => q.2 (List.length_eq_zero_iff.mp e)
      split at u1 <;> omega
    have w12' : ¬ ((w : Nat) : Int) = 12 := by omega
    have de := dq
    rw [show (z :: c1 :: g).length = (z :: c :: g).length from rfl, decide_eq_false q.2] at de
    have f0 : mFz (mLst mNil) (psE ps (z :: c :: g).length w u none none none) (psH z c1 g (ps.map pcD) []) = .ok (.fl []) (psH z c1 g (ps.map pcD) []) := by
      have fl : ∀ h : IH, fzD h h [] = .ok (.fl []) h := fun h => fzD_same (by simp [D.loL])
      generalize psH z c1 g (ps.map pcD) [] = H1 at *
      simp [newL_bind, fz_newL, fl]
    have if1 : msIf (mOr (mTb (mOp (dEq false) (mVar 2) (mC (.int 12)))) (mTb (mOp (dEq false) (mVar 3) (mFz (mLst (mNil)))))) (msRet (mFz (mOp dAdd (mVar 3) (mFz (mLst (mCons (mTup (mCons (mC (.int 0)) (mCons (mC (.int 0)) (mCons (mC (.int 1)) (mNil))))) (mNil))))))) (msNil) (psE ps (z :: c :: g).length w u none none none) (psH z c1 g (ps.map pcD) []) = .nx (psE ps (z :: c :: g).length w u none none none) (psH z c1 g (ps.map pcD) []) := by
      generalize mFz (mLst mNil) = F0 at *
      clear dq st4 st3 fin e9
      unfold psE at *
      generalize psH z c1 g (ps.map pcD) [] = H1 at *
      generalize (z :: c :: g).length = N at *
      simp [w12', f0, de]
    rcases ps_step (z := z) (c := c1) (g := g) (b := b) p1 (w := w) (by omega) hu pl with ⟨l', R, c2, y5, y6, y7, e, al2, p2⟩ | e
    · refine ⟨.fl l', c2, callC_pen (g' := .frz l' :: R) rfl (fin [] [] _ ?_) (fun k _ => (pcz_fl al2).lo k) (fun k _ => p2.lo k), pcz_fl al2, p2⟩
      refine stN if1 (stN e ?_)
      rw [ap_msFz (n := (z :: c1 :: g).length) (xs := l') rfl (psH_at (c := c2))]
      show (RS.rt (D.fl l') _).fin = _
      rw [show (psH z c2 g l' R).set (z :: c1 :: g).length (Cell.frz l') = z :: c2 :: (g ++ Cell.frz l' :: R) from psH_set (c := c2)]
      rfl
    · refine ⟨.tup (ps.map pcD), c1, callC_pen (g' := [.lst (ps.map pcD)]) rfl (fin [] [] _ ?_) (fun k _ => (pcz_tup al).lo k) (fun k _ => p1.lo k), pcz_tup al, p1.mono (by omega)⟩
      exact stN if1 (stR e)
end
end NR

set_option Elab.async false
set_option linter.all false
set_option maxRecDepth 100000
set_option maxHeartbeats 4000000
namespace NR
open PySem PySem.Spec PyProof.Rows L2 Classical
/-! ### a thing and what has its content -/
theorem allM_no {A : Type} {f : D → Option A} : ∀ {l : List D} {d : D}, d ∈ l → f d = none → allM f l = none
  | [], _, h, _ => by cases h
  | a :: l, d, h, e => by
    unfold allM
    rcases List.mem_cons.mp h with rfl | h
    · rw [e]
    · rw [allM_no h e]
      cases f a <;> rfl
theorem self_pl {h : IH} : ∀ {n : Nat} {d : D}, selfB n d = true → d.pl n = true ∨ D.py h n d = none
  | 0, d, e => by cases e
  | n + 1, d, e => by
    have lst : ∀ l : List D, l.all (selfB n) = true → l.all (D.pl n) = true ∨ allM (D.py h n) l = none := fun l hl => by
      by_cases q : ∃ d ∈ l, D.py h n d = none
      · obtain ⟨d, d1, d2⟩ := q
        exact .inr (allM_no d1 d2)
      · refine .inl (List.all_eq_true.mpr fun d hd => ?_)
        rcases self_pl (h := h) (List.all_eq_true.mp hl d hd) with z | z
        · exact z
        · exact absurd ⟨d, hd, z⟩ q
    cases d with
    | tup l =>
      rcases lst l e with z | z
      · exact .inl z
      · right
        show (allM (D.py h n) l).map _ = none
        rw [z]
        rfl
    | fl l =>
      rcases lst l e with z | z
      · exact .inl z
      · right
        show (allM (D.py h n) l).map _ = none
        rw [z]
        rfl
    | fd ks l => exact .inr rfl
    | ref n => cases e
    | exc n => cases e
    | _ => exact .inl rfl
theorem neS_self {x : D} (h : IH) (e : selfB 50 x = true) : dNeS x x h = .ok (.bl false) h := by
  unfold dNeS
  rcases self_pl (h := h) e with z | z
  · rw [dEq_self z]
    rfl
  · have : dEq true x x h = .no := by
      unfold dEq
      rw [z]
    rw [this]
    dsimp only
    rw [if_pos ⟨rfl, e⟩]
section
variable {T : Tb} {s : List Nat} {H : IH}
noncomputable def chT : MS := (msCons (msSet 8 (mIf (mTr (mIs "list" (mVar 6))) (mFz (mB bListX (mCons (mVar 6) (mNil)))) (mVar 6)))
    (msCons (msSet 9 (mCall 3 (m__law_holds) (mCons (mVar 6) (mCons (mVar 7) (mCons (mVar 5) (mNil))))))
    (msCons (msIf (mOr (mNot (mTr (mCall 2 (m__law_said) (mCons (mCall 4 (m_cut_holds) (mCons (mVar 3) (mCons (mVar 4) (mCons (mVar 6) (mCons (mVar 7) (mNil)))))) (mCons (mVar 9) (mNil)))))) (mTb (mOp dNeS (mVar 6) (mVar 8)))) (msRet (mC (.bl false))) (msNil))
    (msRet (mOp (dIsN false) (mCall 4 (m_cut_holds) (mCons (mVar 3) (mCons (mVar 4) (mCons (mFz (mB bListX (mCons (mOp dIx (mVar 5) (mC (.int 0))) (mNil)))) (mCons (mOp dIx (mVar 5) (mC (.int 1))) (mNil)))))) (mC (.bl true)))))))
theorem keep_list {l : List D} (lo : ∀ n, D.lo n (.fl l) = true) (env : EV) (i : Nat) (e : env[i]? = some (some (.fl l))) : mFz (mB bListX (mCons (mVar i) (mNil))) env H = .ok (.fl l) H := by
  have fl : fzD H H l = .ok (.fl l) H := fzD_same (lo _)
  rw [ap_mFz0, ap_mB, ap_mCons, ap_mVar, e]
  dsimp only
  rw [bind_ok, ap_mNil, bind_ok, bind_ok, bListX_fl, fz_newL, fl]
theorem ch_tail (ok : T.Ok) (sl : s.length ≤ 1000) (sb : ∀ x ∈ s, x ∈ T.sig) {x y : D} (px : PcZ x) (ky : y.kn = true) (x0 x1 x2 : Option D) :
    (chT [x0, x1, x2, some T.enc, some (.str s), some (dueD (T.cutFrom s 0).1 (T.cutFrom s 0).2), some x, some y, none, none] H).fin = .ok (.bl true) H := by
  have c1 := cut_holds_call ok sl sb px.p ky H
  have pl := (cutFrom_len (T := T) (s := s) (n := s.length) (p := 0) (by omega) (by omega)).1
  have pcl : PcX (.fl ((T.cutFrom s 0).1.map pcD)) := (pcz_fl fun d hd => by
    obtain ⟨q, _, rfl⟩ := List.mem_map.mp hd
    exact pcy_pc q).p
  have c2 := cut_holds_call ok sl sb pcl (y := .int ((T.cutFrom s 0).2 : Nat)) rfl H
  have flo : ∀ n, D.lo n (.fl ((T.cutFrom s 0).1.map pcD)) = true := (pcz_fl fun d hd => by
    obtain ⟨q, _, rfl⟩ := List.mem_map.mp hd
    exact pcy_pc q).lo
  generalize (T.cutFrom s 0).1 = ps at *
  generalize (T.cutFrom s 0).2 = q at *
  have lh := law_holds_call (ps := ps) (q0 := q) px.p ky (by omega) H
  rw [decide_eq_true (by exact ⟨rfl, rfl⟩)] at c2
  have sd := said_call (decide (x = .fl (ps.map pcD) ∧ y = .int (q : Nat))) H
  have ns := neS_self H px.s
  have k0 := due0 (ps := ps) (q0 := q) (h := H)
  have k1 := due1 (ps := ps) (q0 := q) (h := H)
  unfold chT
  refine stN (env2 := [x0, x1, x2, some T.enc, some (.str s), some (dueD ps q), some x, some y, some x, none]) (h2 := H) (by
    clear sd c1 lh
    generalize dueD ps q = DD at *
    generalize T.enc = TE at *
    cases x with
    | fl l =>
      have kp := keep_list (H := H) px.lo [x0, x1, x2, some TE, some (.str s), some DD, some (.fl l), some y, none, none] 6 rfl
      generalize mFz (mB bListX (mCons (mVar 6) (mNil))) = KL at *
      simp [isT, kp]
    | ref n => cases px.p.kn
    | exc n => cases px.p.kn
    | _ => simp [isT]) ?_
  generalize decide (x = .fl (ps.map pcD) ∧ y = .int (q : Nat)) = B at *
  refine stN (env2 := [x0, x1, x2, some T.enc, some (.str s), some (dueD ps q), some x, some y, some x, some (.bl B)]) (h2 := H) (by
    generalize dueD ps q = DD at *
    generalize T.enc = TE at *
    simp [lh]) ?_
  refine stN (env2 := [x0, x1, x2, some T.enc, some (.str s), some (dueD ps q), some x, some y, some x, some (.bl B)]) (h2 := H) (by
    generalize dueD ps q = DD at *
    generalize T.enc = TE at *
    simp [c1, sd, ns]) ?_
  have kp : mFz (mB bListX (mCons (mOp dIx (mVar 5) (mC (.int 0))) (mNil))) [x0, x1, x2, some T.enc, some (.str s), some (dueD ps q), some x, some y, some x, some (.bl B)] H = .ok (.fl (ps.map pcD)) H := by
    have fl : fzD H H (ps.map pcD) = .ok (.fl (ps.map pcD)) H := fzD_same (flo _)
    rw [ap_mFz0, ap_mB, ap_mCons, ap_mOp, ap_mVar]
    show fzR H ((((R.ok (dueD ps q) H).bind fun x h1 => (R.ok (D.int 0) h1).bind fun y h2 => dIx x y h2).bind fun x h1 => (mNil _ h1).bind fun xs h2 => .ok (x :: xs) h2).bind fun xs h1 => bListX xs h1) = _
    rw [bind_ok, bind_ok, k0, bind_ok, ap_mNil, bind_ok, bind_ok, bListX_fl, fz_newL, fl]
  generalize mFz (mB bListX (mCons (mOp dIx (mVar 5) (mC (.int 0))) (mNil))) = KL at *
  generalize dueD ps q = DD at *
  generalize T.enc = TE at *
  simp [kp, k1, c2, dIsN]
end
end NR

set_option Elab.async false
set_option linter.all false
set_option maxRecDepth 100000
set_option maxHeartbeats 4000000
namespace NR
open PySem PySem.Spec PyProof.Rows L2 Classical
noncomputable def chM : MS := msIf (mTb (mOp dLt (mVar 2) (mC (.int 13)))) (msSet 6 (mCall 3 (m__law_pieces_spoilt) (mCons (mVar 1) (mCons (mVar 6) (mCons (mVar 2) (mNil)))))) (msIf (mTb (mOp dLt (mVar 2) (mC (.int 18)))) (msSet 7 (mOp dIx (mTup (mCons (mOp dAdd (mVar 7) (mC (.int 1))) (mCons (mOp dSub (mVar 7) (mC (.int 1))) (mCons (mC .non) (mCons (mOp (dEq false) (mVar 7) (mC (.int 1))) (mCons (mC (.str [48])) (mNil))))))) (mOp dSub (mVar 2) (mC (.int 13))))) (msIf (mTb (mOp (dEq false) (mVar 2) (mC (.int 18)))) (msSet 6 (mOp dIx (mTup (mCons (mC .non) (mCons (mFz (mDict [])) (mCons (mC (.str [])) (mNil))))) (mCall 2 (m__law_draw) (mCons (mVar 1) (mCons (mC (.int 3)) (mNil)))))) (msNil)))
theorem m_lw : m_law = fnM 10 (msCons (msSet 1 (mCall 1 (m__law_source) (mCons (mVar 0) (mNil))))
    (msCons (msSet 2 (mCall 2 (m__law_draw) (mCons (mVar 1) (mCons (mC (.int 20)) (mNil)))))
    (msCons (msSet 3 (mCall 2 (m__law_table) (mCons (mVar 1) (mCons (mC (.int 32)) (mNil)))))
    (msCons (msSet 4 (mCall 2 (m__law_text) (mCons (mVar 1) (mCons (mOp dIx (mVar 3) (mC (.int 0))) (mNil)))))
    (msCons (msSet 5 (mCall 2 (m__law_cut) (mCons (mVar 3) (mCons (mVar 4) (mNil)))))
    (msCons (msIf (mTb (mOp (dIsN true) (mCall 4 (m_cut_holds) (mCons (mVar 3) (mCons (mVar 4) (mCons (mFz (mB bListX (mCons (mOp dIx (mVar 5) (mC (.int 0))) (mNil)))) (mCons (mOp dIx (mVar 5) (mC (.int 1))) (mNil)))))) (mC (.bl true)))) (msRet (mC (.bl false))) (msNil))
    (msCons (msSet 6 (mFz (mB bListX (mCons (mOp dIx (mVar 5) (mC (.int 0))) (mNil)))))
    (msCons (msSet 7 (mOp dIx (mVar 5) (mC (.int 1))))
    (msCons chM chT))))))))) := rfl
theorem keep5 {ps : List (Int × Nat × Nat)} {q : Nat} {H : IH} {env : EV} (flo : ∀ n, D.lo n (.fl (ps.map pcD)) = true) (e : env[5]? = some (some (dueD ps q))) : mFz (mB bListX (mCons (mOp dIx (mVar 5) (mC (.int 0))) (mNil))) env H = .ok (.fl (ps.map pcD)) H := by
  have fl : fzD H H (ps.map pcD) = .ok (.fl (ps.map pcD)) H := fzD_same (flo _)
  have k0 := due0 (ps := ps) (q0 := q) (h := H)
  rw [ap_mFz0, ap_mB, ap_mCons, ap_mOp, ap_mVar, e]
  show fzR H ((((R.ok (dueD ps q) H).bind fun x h1 => (R.ok (D.int 0) h1).bind fun y h2 => dIx x y h2).bind fun x h1 => (mNil _ h1).bind fun xs h2 => .ok (x :: xs) h2).bind fun xs h1 => bListX xs h1) = _
  rw [bind_ok, bind_ok, k0, bind_ok, ap_mNil, bind_ok, bind_ok, bListX_fl, fz_newL, fl]
theorem law_true : LawOk m_law := by
  intro ns l
  obtain ⟨c0, e0, p0⟩ := source_eq ns l
  generalize Cell.frz (ns.map D.int) = z at *
  obtain ⟨w, c1, e1, w1, p1⟩ := draw_call (b := 12000) (z := z) (c := c0) (g := []) (m := 20) (p0.mono (by omega)) (by omega) (by omega)
  obtain ⟨T, c2, e2, ok, _, _, p2⟩ := table_call (b := 9000) (z := z) (g := []) (most := 32) (by omega) (by omega) (p1.mono (by omega))
  rw [show ((32 : Nat) : Int) = 32 from rfl] at e2
  obtain ⟨s, c3, e3, sl, sb, p3⟩ := text_call (b := 8000) (z := z) (g := []) ok.tg (p2.mono (by omega))
  have t0 : ∀ h, dIx T.enc (.int 0) h = .ok (.str T.sig) h := fun h => dIx_seq (xs := [.str T.sig, .tup (T.goes.map gT), .tup (T.kinds.map D.int)]) rfl (by omega) rfl
  have e4 : callC 2 m__law_cut [T.enc, .str s] [z, c3] = .ok (dueD (T.cutFrom s 0).1 (T.cutFrom s 0).2) [z, c3] := lawcut_call ok (s := s) (by omega) sb [z, c3]
  have pcl : PcZ (.fl ((T.cutFrom s 0).1.map pcD)) := pcz_fl fun d hd => by
    obtain ⟨q, _, rfl⟩ := List.mem_map.mp hd
    exact pcy_pc q
  have c5 := cut_holds_call ok (s := s) (by omega) sb pcl.p (y := .int ((T.cutFrom s 0).2 : Nat)) rfl [z, c3]
  rw [decide_eq_true (by exact ⟨rfl, rfl⟩)] at c5
  have pl := (cutFrom_len (T := T) (s := s) (n := s.length) (p := 0) (by omega) (by omega)).1
  have tail := fun (x y : D) (px : PcZ x) (ky : y.kn = true) (x0 x1 x2 : Option D) (H : IH) => ch_tail (H := H) ok (s := s) (by omega) sb px ky x0 x1 x2
  have k1 := due1 (ps := (T.cutFrom s 0).1) (q0 := (T.cutFrom s 0).2) (h := [z, c3])
  have kp := fun (env : EV) (e : env[5]? = some (some (dueD (T.cutFrom s 0).1 (T.cutFrom s 0).2))) => keep5 (H := [z, c3]) (env := env) pcl.lo e
  -- what the middle comes to
  have mid : ∃ (x y : D) (c' : Cell), chM [some (.ref 0), some (.ref 1), some (.int (w : Nat)), some T.enc, some (.str s), some (dueD (T.cutFrom s 0).1 (T.cutFrom s 0).2), some (.fl ((T.cutFrom s 0).1.map pcD)), some (.int ((T.cutFrom s 0).2 : Nat)), none, none] [z, c3] = .nx [some (.ref 0), some (.ref 1), some (.int (w : Nat)), some T.enc, some (.str s), some (dueD (T.cutFrom s 0).1 (T.cutFrom s 0).2), some x, some y, none, none] [z, c'] ∧ PcZ x ∧ y.kn = true := by
    generalize (T.cutFrom s 0).2 = q at *
    generalize hps : (T.cutFrom s 0).1 = ps at *
    by_cases w13 : w < 13
    · obtain ⟨x, c', e, pz, p4⟩ := pieces_spoilt_call (b := 5) (z := z) (c := c3) (g := []) (ps := ps) (p3.mono (by omega)) w13 (by omega)
      refine ⟨x, .int (q : Nat), c', ?_, pz, rfl⟩
      have w13' : ((w : Nat) : Int) < 13 := by omega
      unfold chM
      generalize dueD ps q = DD at *
      generalize T.enc = TE at *
      generalize ps.map pcD = PP at *
      simp [w13', e]
    · have w13' : ¬ ((w : Nat) : Int) < 13 := by omega
      by_cases w18 : w < 18
      · have w18' : ((w : Nat) : Int) < 18 := by omega
        have ws : w = 13 ∨ w = 14 ∨ w = 15 ∨ w = 16 ∨ w = 17 := by omega
        have ix : ∃ y : D, dIx (.tup [.int ((q : Nat) + 1), .int ((q : Nat) - 1), .non, .bl (decide (((q : Nat) : Int) = 1)), .str [48]]) (.int ((w : Nat) - 13)) [z, c3] = .ok y [z, c3] ∧ y.kn = true := by
          rcases ws with rfl | rfl | rfl | rfl | rfl
          · exact ⟨_, rfl, rfl⟩
          · exact ⟨_, rfl, rfl⟩
          · exact ⟨_, rfl, rfl⟩
          · exact ⟨_, rfl, rfl⟩
          · exact ⟨_, rfl, rfl⟩
        obtain ⟨y, ix, ky⟩ := ix
        refine ⟨_, y, c3, ?_, pcl, ky⟩
        unfold chM
        generalize dueD ps q = DD at *
        generalize T.enc = TE at *
        generalize ps.map pcD = PP at *
        simp [w13', w18', ix]
      · have w18' : ¬ ((w : Nat) : Int) < 18 := by omega
        by_cases w19 : w = 18
        · obtain ⟨v, c', e, v1, p4⟩ := draw_call (b := 5) (z := z) (c := c3) (g := []) (m := 3) (p3.mono (by omega)) (by omega) (by omega)
          have vs : v = 0 ∨ v = 1 ∨ v = 2 := by omega
          have ix : ∃ x : D, dIx (.tup [.non, .fd [] [], .str []]) (.int (v : Nat)) [z, c'] = .ok x [z, c'] ∧ PcZ x := by
            rcases vs with rfl | rfl | rfl
            · exact ⟨_, rfl, pcz_at rfl rfl (fun n => rfl) (fun l e => by cases e)⟩
            · exact ⟨_, rfl, pcz_at rfl rfl (fun n => rfl) (fun l e => by cases e)⟩
            · exact ⟨_, rfl, pcz_at rfl rfl (fun n => rfl) (fun l e => by cases e)⟩
          obtain ⟨x, ix, pz⟩ := ix
          refine ⟨x, .int (q : Nat), c', ?_, pz, rfl⟩
          subst w19
          unfold chM
          generalize dueD ps q = DD at *
          generalize T.enc = TE at *
          generalize ps.map pcD = PP at *
          simp [e, ix]
        · refine ⟨_, .int (q : Nat), c3, ?_, pcl, rfl⟩
          have w19' : ¬ ((w : Nat) : Int) = 18 := by omega
          unfold chM
          generalize dueD ps q = DD at *
          generalize T.enc = TE at *
          generalize ps.map pcD = PP at *
          simp [w13', w18', w19']
  obtain ⟨x, y, c', em, pz, ky⟩ := mid
  have tl := tail x y pz ky (some (.ref 0)) (some (.ref 1)) (some (.int (w : Nat))) [z, c']
  clear tail
  generalize (T.cutFrom s 0).2 = q at *
  generalize (T.cutFrom s 0).1 = ps at *
  refine ⟨[z, c'], ?_⟩
  show m_law [.ref 0] _ = _
  rw [m_lw, ap_fnM]
  simp only [List.map_cons, List.map_nil, List.length_cons, List.length_nil, List.cons_append, List.nil_append, Nat.reduceAdd, Nat.reduceSub, List.replicate]
  refine stN (env2 := [some (.ref 0), some (.ref 1), none, none, none, none, none, none, none, none]) (h2 := [z, c0]) (by simp [e0]) ?_
  refine stN (env2 := [some (.ref 0), some (.ref 1), some (.int (w : Nat)), none, none, none, none, none, none, none]) (h2 := [z, c1]) (by simp [e1]) ?_
  refine stN (env2 := [some (.ref 0), some (.ref 1), some (.int (w : Nat)), some T.enc, none, none, none, none, none, none]) (h2 := [z, c2]) (by
    clear kp
    generalize T.enc = TE at *
    simp [e2]) ?_
  refine stN (env2 := [some (.ref 0), some (.ref 1), some (.int (w : Nat)), some T.enc, some (.str s), none, none, none, none, none]) (h2 := [z, c3]) (by
    clear kp
    generalize T.enc = TE at *
    simp [t0, e3]) ?_
  refine stN (env2 := [some (.ref 0), some (.ref 1), some (.int (w : Nat)), some T.enc, some (.str s), some (dueD ps q), none, none, none, none]) (h2 := [z, c3]) (by
    clear kp
    generalize dueD ps q = DD at *
    generalize T.enc = TE at *
    simp [e4]) ?_
  have kq := kp [some (.ref 0), some (.ref 1), some (.int (w : Nat)), some T.enc, some (.str s), some (dueD ps q), none, none, none, none] rfl
  generalize mFz (mB bListX (mCons (mOp dIx (mVar 5) (mC (.int 0))) (mNil))) = KL at *
  refine stN (env2 := [some (.ref 0), some (.ref 1), some (.int (w : Nat)), some T.enc, some (.str s), some (dueD ps q), none, none, none, none]) (h2 := [z, c3]) (by
    clear kp
    generalize dueD ps q = DD at *
    generalize T.enc = TE at *
    simp [kq, k1, c5, dIsN]) ?_
  refine stN (env2 := [some (.ref 0), some (.ref 1), some (.int (w : Nat)), some T.enc, some (.str s), some (dueD ps q), some (.fl (ps.map pcD)), none, none, none]) (h2 := [z, c3]) (by
    clear kp
    generalize dueD ps q = DD at *
    generalize T.enc = TE at *
    simp [kq]) ?_
  refine stN (env2 := [some (.ref 0), some (.ref 1), some (.int (w : Nat)), some T.enc, some (.str s), some (dueD ps q), some (.fl (ps.map pcD)), some (.int (q : Nat)), none, none]) (h2 := [z, c3]) (by
    clear kp
    generalize dueD ps q = DD at *
    generalize T.enc = TE at *
    simp [k1]) ?_
  exact stN em tl
end NR

set_option Elab.async false
set_option linter.all false
set_option maxRecDepth 100000
set_option maxHeartbeats 4000000
namespace NR
open PySem PySem.Spec PyProof.Rows L2
theorem all_mk {l : PySem.W.OpenLaw} {w : World} {K : PySem.W.Frag} {h : Heap} {mg : Str → Option Value} {fa : Addr} (X : K.In h) (Gn : h.Ns mainGlobals mg) (hfa : mg "law" = some (.ref fa))
    (z_abs : PySem.W.nsIn K mainGlobals "abs" = some none)
    (z_all : PySem.W.nsIn K mainGlobals "all" = some none)
    (z_bool : PySem.W.nsIn K mainGlobals "bool" = some none)
    (z_int : PySem.W.nsIn K mainGlobals "int" = some none)
    (z_isinstance : PySem.W.nsIn K mainGlobals "isinstance" = some none)
    (z_len : PySem.W.nsIn K mainGlobals "len" = some none)
    (z_list : PySem.W.nsIn K mainGlobals "list" = some none)
    (z_max : PySem.W.nsIn K mainGlobals "max" = some none)
    (z_min : PySem.W.nsIn K mainGlobals "min" = some none)
    (z_range : PySem.W.nsIn K mainGlobals "range" = some none)
    (z_sorted : PySem.W.nsIn K mainGlobals "sorted" = some none)
    (z_str : PySem.W.nsIn K mainGlobals "str" = some none)
    (z_sum : PySem.W.nsIn K mainGlobals "sum" = some none)
    (z_tuple : PySem.W.nsIn K mainGlobals "tuple" = some none)
    {c_NoText : Addr} (ca_NoText : PySem.W.nsIn K mainGlobals "NoText" = some (some (.ref c_NoText)))
    (cq_NoText : PySem.W.excIn K c_NoText [.type "ValueError", .type "Exception", .type "BaseException", .type "object"] "ValueError.__new__" = true)
    (ck_NoText : PySem.W.keepIn K (.ref c_NoText) = true)
    (cb_NoText : PySem.W.subIn K (.ref c_NoText) (.type "BaseException") = some true)
    (ct_NoText : PySem.W.typeIn K (.ref c_NoText) = some (.type "type"))
    (cg_NoText : PySem.W.findIn K (.ref c_NoText) "__getattribute__" = some (some (.builtin "BaseException.__getattribute__")))
    (ch_NoText : PySem.W.findIn K (.ref c_NoText) "__getattr__" = some none)
    (cd_NoText : PySem.W.hasDictIn K c_NoText = true)
    (cc_NoText : PySem.W.findIn K (.ref c_NoText) "__class__" = some (some (.builtin "object.__class__")))
    (cm_NoText : PySem.W.mroIn K c_NoText (.type "object") = some true)
    (cn : PySem.W.specialIn K (.builtin "object.__class__") "__get__" = some (some (.builtin "getset_descriptor.__get__")))
    (cx : PySem.W.takesIn K (.builtin "object.__class__") = some true)
    {f0 : Addr} {od0 an0 : Option Addr} {sl0 : Array (Option Value)} {oc0 kV0 dc0 pm0 cd0 ct0 : Value} (a0 : PySem.W.nsIn K mainGlobals "is_number" = some (some (.ref f0))) (l0 : K.lookup f0 = some ⟨oc0, od0, .func (PySem.W.fnOf "is_number" "is_number" (defArgs (topS 4)) (defBody (topS 4)) (defScope (topS 4)) .none kV0 dc0 pm0 an0 cd0 ct0), sl0⟩) (b0 : PySem.W.codeIn K cd0 "is_number" = true) (k0 : PySem.W.keepIn K (.ref f0) = true)
    {f1 : Addr} {od1 an1 : Option Addr} {sl1 : Array (Option Value)} {oc1 kV1 dc1 pm1 cd1 ct1 : Value} (a1 : PySem.W.nsIn K mainGlobals "is_text" = some (some (.ref f1))) (l1 : K.lookup f1 = some ⟨oc1, od1, .func (PySem.W.fnOf "is_text" "is_text" (defArgs (topS 7)) (defBody (topS 7)) (defScope (topS 7)) .none kV1 dc1 pm1 an1 cd1 ct1), sl1⟩) (b1 : PySem.W.codeIn K cd1 "is_text" = true) (k1 : PySem.W.keepIn K (.ref f1) = true)
    {f2 : Addr} {od2 an2 : Option Addr} {sl2 : Array (Option Value)} {oc2 kV2 dc2 pm2 cd2 ct2 : Value} (a2 : PySem.W.nsIn K mainGlobals "longest" = some (some (.ref f2))) (l2 : K.lookup f2 = some ⟨oc2, od2, .func (PySem.W.fnOf "longest" "longest" (defArgs (topS 9)) (defBody (topS 9)) (defScope (topS 9)) .none kV2 dc2 pm2 an2 cd2 ct2), sl2⟩) (b2 : PySem.W.codeIn K cd2 "longest" = true) (k2 : PySem.W.keepIn K (.ref f2) = true)
    {f3 : Addr} {od3 an3 : Option Addr} {sl3 : Array (Option Value)} {oc3 kV3 dc3 pm3 cd3 ct3 : Value} (a3 : PySem.W.nsIn K mainGlobals "_law_said" = some (some (.ref f3))) (l3 : K.lookup f3 = some ⟨oc3, od3, .func (PySem.W.fnOf "_law_said" "_law_said" (defArgs (topS 13)) (defBody (topS 13)) (defScope (topS 13)) .none kV3 dc3 pm3 an3 cd3 ct3), sl3⟩) (b3 : PySem.W.codeIn K cd3 "_law_said" = true) (k3 : PySem.W.keepIn K (.ref f3) = true)
    {f4 : Addr} {od4 an4 : Option Addr} {sl4 : Array (Option Value)} {oc4 kV4 dc4 pm4 cd4 ct4 : Value} (a4 : PySem.W.nsIn K mainGlobals "_law_source" = some (some (.ref f4))) (l4 : K.lookup f4 = some ⟨oc4, od4, .func (PySem.W.fnOf "_law_source" "_law_source" (defArgs (topS 14)) (defBody (topS 14)) (defScope (topS 14)) .none kV4 dc4 pm4 an4 cd4 ct4), sl4⟩) (b4 : PySem.W.codeIn K cd4 "_law_source" = true) (k4 : PySem.W.keepIn K (.ref f4) = true)
    {f5 : Addr} {od5 an5 : Option Addr} {sl5 : Array (Option Value)} {oc5 kV5 dc5 pm5 cd5 ct5 : Value} (a5 : PySem.W.nsIn K mainGlobals "_law_draw" = some (some (.ref f5))) (l5 : K.lookup f5 = some ⟨oc5, od5, .func (PySem.W.fnOf "_law_draw" "_law_draw" (defArgs (topS 15)) (defBody (topS 15)) (defScope (topS 15)) .none kV5 dc5 pm5 an5 cd5 ct5), sl5⟩) (b5 : PySem.W.codeIn K cd5 "_law_draw" = true) (k5 : PySem.W.keepIn K (.ref f5) = true)
    {f6 : Addr} {od6 an6 : Option Addr} {sl6 : Array (Option Value)} {oc6 kV6 dc6 pm6 cd6 ct6 : Value} (a6 : PySem.W.nsIn K mainGlobals "_law_signs" = some (some (.ref f6))) (l6 : K.lookup f6 = some ⟨oc6, od6, .func (PySem.W.fnOf "_law_signs" "_law_signs" (defArgs (topS 16)) (defBody (topS 16)) (defScope (topS 16)) .none kV6 dc6 pm6 an6 cd6 ct6), sl6⟩) (b6 : PySem.W.codeIn K cd6 "_law_signs" = true) (k6 : PySem.W.keepIn K (.ref f6) = true)
    {f7 : Addr} {od7 an7 : Option Addr} {sl7 : Array (Option Value)} {oc7 kV7 dc7 pm7 cd7 ct7 : Value} (a7 : PySem.W.nsIn K mainGlobals "_law_first" = some (some (.ref f7))) (l7 : K.lookup f7 = some ⟨oc7, od7, .func (PySem.W.fnOf "_law_first" "_law_first" (defArgs (topS 21)) (defBody (topS 21)) (defScope (topS 21)) .none kV7 dc7 pm7 an7 cd7 ct7), sl7⟩) (b7 : PySem.W.codeIn K cd7 "_law_first" = true) (k7 : PySem.W.keepIn K (.ref f7) = true)
    {f8 : Addr} {od8 an8 : Option Addr} {sl8 : Array (Option Value)} {oc8 kV8 dc8 pm8 cd8 ct8 : Value} (a8 : PySem.W.nsIn K mainGlobals "_law_numbers" = some (some (.ref f8))) (l8 : K.lookup f8 = some ⟨oc8, od8, .func (PySem.W.fnOf "_law_numbers" "_law_numbers" (defArgs (topS 23)) (defBody (topS 23)) (defScope (topS 23)) .none kV8 dc8 pm8 an8 cd8 ct8), sl8⟩) (b8 : PySem.W.codeIn K cd8 "_law_numbers" = true) (k8 : PySem.W.keepIn K (.ref f8) = true)
    {f9 : Addr} {od9 an9 : Option Addr} {sl9 : Array (Option Value)} {oc9 kV9 dc9 pm9 cd9 ct9 : Value} (a9 : PySem.W.nsIn K mainGlobals "is_numbers" = some (some (.ref f9))) (l9 : K.lookup f9 = some ⟨oc9, od9, .func (PySem.W.fnOf "is_numbers" "is_numbers" (defArgs (topS 5)) (defBody (topS 5)) (defScope (topS 5)) .none kV9 dc9 pm9 an9 cd9 ct9), sl9⟩) (b9 : PySem.W.codeIn K cd9 "is_numbers" = true) (k9 : PySem.W.keepIn K (.ref f9) = true)
    {f10 : Addr} {od10 an10 : Option Addr} {sl10 : Array (Option Value)} {oc10 kV10 dc10 pm10 cd10 ct10 : Value} (a10 : PySem.W.nsIn K mainGlobals "cut" = some (some (.ref f10))) (l10 : K.lookup f10 = some ⟨oc10, od10, .func (PySem.W.fnOf "cut" "cut" (defArgs (topS 10)) (defBody (topS 10)) (defScope (topS 10)) .none kV10 dc10 pm10 an10 cd10 ct10), sl10⟩) (b10 : PySem.W.codeIn K cd10 "cut" = true) (k10 : PySem.W.keepIn K (.ref f10) = true)
    {f11 : Addr} {od11 an11 : Option Addr} {sl11 : Array (Option Value)} {oc11 kV11 dc11 pm11 cd11 ct11 : Value} (a11 : PySem.W.nsIn K mainGlobals "_law_tongue" = some (some (.ref f11))) (l11 : K.lookup f11 = some ⟨oc11, od11, .func (PySem.W.fnOf "_law_tongue" "_law_tongue" (defArgs (topS 17)) (defBody (topS 17)) (defScope (topS 17)) .none kV11 dc11 pm11 an11 cd11 ct11), sl11⟩) (b11 : PySem.W.codeIn K cd11 "_law_tongue" = true) (k11 : PySem.W.keepIn K (.ref f11) = true)
    {f12 : Addr} {od12 an12 : Option Addr} {sl12 : Array (Option Value)} {oc12 kV12 dc12 pm12 cd12 ct12 : Value} (a12 : PySem.W.nsIn K mainGlobals "_law_rooms" = some (some (.ref f12))) (l12 : K.lookup f12 = some ⟨oc12, od12, .func (PySem.W.fnOf "_law_rooms" "_law_rooms" (defArgs (topS 18)) (defBody (topS 18)) (defScope (topS 18)) .none kV12 dc12 pm12 an12 cd12 ct12), sl12⟩) (b12 : PySem.W.codeIn K cd12 "_law_rooms" = true) (k12 : PySem.W.keepIn K (.ref f12) = true)
    {f13 : Addr} {od13 an13 : Option Addr} {sl13 : Array (Option Value)} {oc13 kV13 dc13 pm13 cd13 ct13 : Value} (a13 : PySem.W.nsIn K mainGlobals "_law_text" = some (some (.ref f13))) (l13 : K.lookup f13 = some ⟨oc13, od13, .func (PySem.W.fnOf "_law_text" "_law_text" (defArgs (topS 20)) (defBody (topS 20)) (defScope (topS 20)) .none kV13 dc13 pm13 an13 cd13 ct13), sl13⟩) (b13 : PySem.W.codeIn K cd13 "_law_text" = true) (k13 : PySem.W.keepIn K (.ref f13) = true)
    {f14 : Addr} {od14 an14 : Option Addr} {sl14 : Array (Option Value)} {oc14 kV14 dc14 pm14 cd14 ct14 : Value} (a14 : PySem.W.nsIn K mainGlobals "_law_cut" = some (some (.ref f14))) (l14 : K.lookup f14 = some ⟨oc14, od14, .func (PySem.W.fnOf "_law_cut" "_law_cut" (defArgs (topS 22)) (defBody (topS 22)) (defScope (topS 22)) .none kV14 dc14 pm14 an14 cd14 ct14), sl14⟩) (b14 : PySem.W.codeIn K cd14 "_law_cut" = true) (k14 : PySem.W.keepIn K (.ref f14) = true)
    {f15 : Addr} {od15 an15 : Option Addr} {sl15 : Array (Option Value)} {oc15 kV15 dc15 pm15 cd15 ct15 : Value} (a15 : PySem.W.nsIn K mainGlobals "_law_piece_spoilt" = some (some (.ref f15))) (l15 : K.lookup f15 = some ⟨oc15, od15, .func (PySem.W.fnOf "_law_piece_spoilt" "_law_piece_spoilt" (defArgs (topS 24)) (defBody (topS 24)) (defScope (topS 24)) .none kV15 dc15 pm15 an15 cd15 ct15), sl15⟩) (b15 : PySem.W.codeIn K cd15 "_law_piece_spoilt" = true) (k15 : PySem.W.keepIn K (.ref f15) = true)
    {f16 : Addr} {od16 an16 : Option Addr} {sl16 : Array (Option Value)} {oc16 kV16 dc16 pm16 cd16 ct16 : Value} (a16 : PySem.W.nsIn K mainGlobals "_law_holds" = some (some (.ref f16))) (l16 : K.lookup f16 = some ⟨oc16, od16, .func (PySem.W.fnOf "_law_holds" "_law_holds" (defArgs (topS 26)) (defBody (topS 26)) (defScope (topS 26)) .none kV16 dc16 pm16 an16 cd16 ct16), sl16⟩) (b16 : PySem.W.codeIn K cd16 "_law_holds" = true) (k16 : PySem.W.keepIn K (.ref f16) = true)
    {f17 : Addr} {od17 an17 : Option Addr} {sl17 : Array (Option Value)} {oc17 kV17 dc17 pm17 cd17 ct17 : Value} (a17 : PySem.W.nsIn K mainGlobals "cut_holds" = some (some (.ref f17))) (l17 : K.lookup f17 = some ⟨oc17, od17, .func (PySem.W.fnOf "cut_holds" "cut_holds" (defArgs (topS 11)) (defBody (topS 11)) (defScope (topS 11)) .none kV17 dc17 pm17 an17 cd17 ct17), sl17⟩) (b17 : PySem.W.codeIn K cd17 "cut_holds" = true) (k17 : PySem.W.keepIn K (.ref f17) = true)
    {f18 : Addr} {od18 an18 : Option Addr} {sl18 : Array (Option Value)} {oc18 kV18 dc18 pm18 cd18 ct18 : Value} (a18 : PySem.W.nsIn K mainGlobals "_law_table" = some (some (.ref f18))) (l18 : K.lookup f18 = some ⟨oc18, od18, .func (PySem.W.fnOf "_law_table" "_law_table" (defArgs (topS 19)) (defBody (topS 19)) (defScope (topS 19)) .none kV18 dc18 pm18 an18 cd18 ct18), sl18⟩) (b18 : PySem.W.codeIn K cd18 "_law_table" = true) (k18 : PySem.W.keepIn K (.ref f18) = true)
    {f19 : Addr} {od19 an19 : Option Addr} {sl19 : Array (Option Value)} {oc19 kV19 dc19 pm19 cd19 ct19 : Value} (a19 : PySem.W.nsIn K mainGlobals "_law_pieces_spoilt" = some (some (.ref f19))) (l19 : K.lookup f19 = some ⟨oc19, od19, .func (PySem.W.fnOf "_law_pieces_spoilt" "_law_pieces_spoilt" (defArgs (topS 25)) (defBody (topS 25)) (defScope (topS 25)) .none kV19 dc19 pm19 an19 cd19 ct19), sl19⟩) (b19 : PySem.W.codeIn K cd19 "_law_pieces_spoilt" = true) (k19 : PySem.W.keepIn K (.ref f19) = true)
    {f20 : Addr} {od20 an20 : Option Addr} {sl20 : Array (Option Value)} {oc20 kV20 dc20 pm20 cd20 ct20 : Value} (a20 : PySem.W.nsIn K mainGlobals "law" = some (some (.ref f20))) (l20 : K.lookup f20 = some ⟨oc20, od20, .func (PySem.W.fnOf "law" "law" (defArgs (topS 27)) (defBody (topS 27)) (defScope (topS 27)) .none kV20 dc20 pm20 an20 cd20 ct20), sl20⟩) (b20 : PySem.W.codeIn K cd20 "law" = true) (k20 : PySem.W.keepIn K (.ref f20) = true) :
    ∃ fd : FuncData, (∀ (s : Shared) (v : Value), BindsTo s fd ⟨[v], []⟩ [("_law_script", v)]) ∧ ∀ base : Heap, K.In base → base.Ns mainGlobals mg → FnOk l.prog w K mg base (L2.CX l.prog w) 4 fa fd ["_law_script"] (spLaw ⟨K, fun _ => 0⟩ m_law) := by
  have e := hfa.symm.trans (PySem.W.mg_of X Gn a20)
  cases e
  have F0 := fun_mk (st := topS 4) l0 b0 k0
  have B0 := F0.binds (ps := ["thing"]) fun _ _ _ _ _ _ us hl => match us, hl with | [_], _ => rfl
  have F1 := fun_mk (st := topS 7) l1 b1 k1
  have B1 := F1.binds (ps := ["tongue", "thing"]) fun _ _ _ _ _ _ us hl => match us, hl with | [_, _], _ => rfl
  have F2 := fun_mk (st := topS 9) l2 b2 k2
  have B2 := F2.binds (ps := ["table", "text", "at"]) fun _ _ _ _ _ _ us hl => match us, hl with | [_, _, _], _ => rfl
  have F3 := fun_mk (st := topS 13) l3 b3 k3
  have B3 := F3.binds (ps := ["_law_found", "_law_wanted"]) fun _ _ _ _ _ _ us hl => match us, hl with | [_, _], _ => rfl
  have F4 := fun_mk (st := topS 14) l4 b4 k4
  have B4 := F4.binds (ps := ["_law_script"]) fun _ _ _ _ _ _ us hl => match us, hl with | [_], _ => rfl
  have F5 := fun_mk (st := topS 15) l5 b5 k5
  have B5 := F5.binds (ps := ["_law_left", "_law_many"]) fun _ _ _ _ _ _ us hl => match us, hl with | [_, _], _ => rfl
  have F6 := fun_mk (st := topS 16) l6 b6 k6
  have B6 := F6.binds (ps := []) fun _ _ _ _ _ _ us hl => match us, hl with | [], _ => rfl
  have F7 := fun_mk (st := topS 21) l7 b7 k7
  have B7 := F7.binds (ps := ["_law_table_here", "_law_text_here", "_law_at"]) fun _ _ _ _ _ _ us hl => match us, hl with | [_, _, _], _ => rfl
  have F8 := fun_mk (st := topS 23) l8 b8 k8
  have B8 := F8.binds (ps := ["_law_found", "_law_many"]) fun _ _ _ _ _ _ us hl => match us, hl with | [_, _], _ => rfl
  have F9 := fun_mk (st := topS 5) l9 b9 k9
  have B9 := F9.binds (ps := ["thing"]) fun _ _ _ _ _ _ us hl => match us, hl with | [_], _ => rfl
  have F10 := fun_mk (st := topS 10) l10 b10 k10
  have B10 := F10.binds (ps := ["table", "text"]) fun _ _ _ _ _ _ us hl => match us, hl with | [_, _], _ => rfl
  have F11 := fun_mk (st := topS 17) l11 b11 k11
  have B11 := F11.binds (ps := ["_law_left"]) fun _ _ _ _ _ _ us hl => match us, hl with | [_], _ => rfl
  have F12 := fun_mk (st := topS 18) l12 b12 k12
  have B12 := F12.binds (ps := ["_law_left", "_law_tongue_here", "_law_many"]) fun _ _ _ _ _ _ us hl => match us, hl with | [_, _, _], _ => rfl
  have F13 := fun_mk (st := topS 20) l13 b13 k13
  have B13 := F13.binds (ps := ["_law_left", "_law_tongue_here"]) fun _ _ _ _ _ _ us hl => match us, hl with | [_, _], _ => rfl
  have F14 := fun_mk (st := topS 22) l14 b14 k14
  have B14 := F14.binds (ps := ["_law_table_here", "_law_text_here"]) fun _ _ _ _ _ _ us hl => match us, hl with | [_, _], _ => rfl
  have F15 := fun_mk (st := topS 24) l15 b15 k15
  have B15 := F15.binds (ps := ["_law_left", "_law_piece", "_law_which"]) fun _ _ _ _ _ _ us hl => match us, hl with | [_, _, _], _ => rfl
  have F16 := fun_mk (st := topS 26) l16 b16 k16
  have B16 := F16.binds (ps := ["_law_pieces", "_law_place", "_law_due"]) fun _ _ _ _ _ _ us hl => match us, hl with | [_, _, _], _ => rfl
  have F17 := fun_mk (st := topS 11) l17 b17 k17
  have B17 := F17.binds (ps := ["table", "text", "pieces", "place"]) fun _ _ _ _ _ _ us hl => match us, hl with | [_, _, _, _], _ => rfl
  have F18 := fun_mk (st := topS 19) l18 b18 k18
  have B18 := F18.binds (ps := ["_law_left", "_law_most"]) fun _ _ _ _ _ _ us hl => match us, hl with | [_, _], _ => rfl
  have F19 := fun_mk (st := topS 25) l19 b19 k19
  have B19 := F19.binds (ps := ["_law_left", "_law_pieces", "_law_which"]) fun _ _ _ _ _ _ us hl => match us, hl with | [_, _, _], _ => rfl
  have F20 := fun_mk (st := topS 27) l20 b20 k20
  have B20 := F20.binds (ps := ["_law_script"]) fun _ _ _ _ _ _ us hl => match us, hl with | [_], _ => rfl
  obtain ⟨cl, e_NoText⟩ : ∃ cl : Str → Addr, cl "NoText" = c_NoText := ⟨fun s => if s = "NoText" then c_NoText else (0), if_pos rfl⟩
  subst e_NoText
  have ec_NoText : ExcC K (cl "NoText") := ⟨cg_NoText, ch_NoText, cb_NoText, cd_NoText, cc_NoText, cn, cx, cm_NoText⟩
  exact ⟨PySem.W.fnOf "law" "law" (defArgs (topS 27)) (defBody (topS 27)) (defScope (topS 27)) .none kV20 dc20 pm20 an20 cd20 ct20, fun s v => .of_eq rfl, fun base _ _ => 
    law_ok (G := ⟨K, cl⟩) (all_ok (P := l.prog) (w := w) (base := base) (K := K) (mg := mg) cl (PySem.W.mg_none_of X Gn z_abs) (PySem.W.mg_none_of X Gn z_all) (PySem.W.mg_none_of X Gn z_bool) (PySem.W.mg_none_of X Gn z_int) (PySem.W.mg_none_of X Gn z_isinstance) (PySem.W.mg_none_of X Gn z_len) (PySem.W.mg_none_of X Gn z_list) (PySem.W.mg_none_of X Gn z_max) (PySem.W.mg_none_of X Gn z_min) (PySem.W.mg_none_of X Gn z_range) (PySem.W.mg_none_of X Gn z_sorted) (PySem.W.mg_none_of X Gn z_str) (PySem.W.mg_none_of X Gn z_sum) (PySem.W.mg_none_of X Gn z_tuple) ⟨PySem.W.mg_of X Gn ca_NoText, cq_NoText, ck_NoText, cb_NoText, ct_NoText, ec_NoText⟩ ⟨_, _, F0, PySem.W.mg_of X Gn a0, B0⟩ ⟨_, _, F1, PySem.W.mg_of X Gn a1, B1⟩ ⟨_, _, F2, PySem.W.mg_of X Gn a2, B2⟩ ⟨_, _, F3, PySem.W.mg_of X Gn a3, B3⟩ ⟨_, _, F4, PySem.W.mg_of X Gn a4, B4⟩ ⟨_, _, F5, PySem.W.mg_of X Gn a5, B5⟩ ⟨_, _, F6, PySem.W.mg_of X Gn a6, B6⟩ ⟨_, _, F7, PySem.W.mg_of X Gn a7, B7⟩ ⟨_, _, F8, PySem.W.mg_of X Gn a8, B8⟩ ⟨_, _, F9, PySem.W.mg_of X Gn a9, B9⟩ ⟨_, _, F10, PySem.W.mg_of X Gn a10, B10⟩ ⟨_, _, F11, PySem.W.mg_of X Gn a11, B11⟩ ⟨_, _, F12, PySem.W.mg_of X Gn a12, B12⟩ ⟨_, _, F13, PySem.W.mg_of X Gn a13, B13⟩ ⟨_, _, F14, PySem.W.mg_of X Gn a14, B14⟩ ⟨_, _, F15, PySem.W.mg_of X Gn a15, B15⟩ ⟨_, _, F16, PySem.W.mg_of X Gn a16, B16⟩ ⟨_, _, F17, PySem.W.mg_of X Gn a17, B17⟩ ⟨_, _, F18, PySem.W.mg_of X Gn a18, B18⟩ ⟨_, _, F19, PySem.W.mg_of X Gn a19, B19⟩ F20) law_true⟩
end NR
open PySem PySem.W PyProof.Rows
set_option maxHeartbeats 0 in
theorem PySem.Challenge.cw_nearreach_k36_cuts_looked_at_holds : PySem.Challenge.rw_nearreach_k36_cuts_looked_at.Holds := by
  w_on; o_law; k_head; (case hw => w_witness2)
  k_fill
  refine L2.walk_of (l := PySem.Challenge.rw_nearreach_k36_cuts_looked_at) (n := 63) (k := 4) (x := "_law_script") (CX := fun w => L2.CX (PySem.Challenge.rw_nearreach_k36_cuts_looked_at).prog w) (sp := fun w => NR.spLaw ⟨_, fun _ => 0⟩ NR.m_law) rfl (by decide) rfl ⟨rfl, by decide, by decide⟩ (fun w h Y => PySem.W.kIn_of Y) ?F (fun _ H a ns hl ho hS => ⟨a, ns, rfl, hl, ho, hS, fun _ => rfl⟩) (fun w H s e s' hx => NR.cx_no hx)
  case F =>
    intro w mg fa h KX G hmg
    refine' NR.all_mk KX G hmg ?z_abs ?z_all ?z_bool ?z_int ?z_isinstance ?z_len ?z_list ?z_max ?z_min ?z_range ?z_sorted ?z_str ?z_sum ?z_tuple ?ca_NoText ?cq_NoText ?ck_NoText ?cb_NoText ?ct_NoText ?cg_NoText ?ch_NoText ?cd_NoText ?cc_NoText ?cm_NoText ?cn ?cx ?a0 ?l0 ?b0 ?k0 ?a1 ?l1 ?b1 ?k1 ?a2 ?l2 ?b2 ?k2 ?a3 ?l3 ?b3 ?k3 ?a4 ?l4 ?b4 ?k4 ?a5 ?l5 ?b5 ?k5 ?a6 ?l6 ?b6 ?k6 ?a7 ?l7 ?b7 ?k7 ?a8 ?l8 ?b8 ?k8 ?a9 ?l9 ?b9 ?k9 ?a10 ?l10 ?b10 ?k10 ?a11 ?l11 ?b11 ?k11 ?a12 ?l12 ?b12 ?k12 ?a13 ?l13 ?b13 ?k13 ?a14 ?l14 ?b14 ?k14 ?a15 ?l15 ?b15 ?k15 ?a16 ?l16 ?b16 ?k16 ?a17 ?l17 ?b17 ?k17 ?a18 ?l18 ?b18 ?k18 ?a19 ?l19 ?b19 ?k19 ?a20 ?l20 ?b20 ?k20
    (case z_abs => k_is)
    (case z_all => k_is)
    (case z_bool => k_is)
    (case z_int => k_is)
    (case z_isinstance => k_is)
    (case z_len => k_is)
    (case z_list => k_is)
    (case z_max => k_is)
    (case z_min => k_is)
    (case z_range => k_is)
    (case z_sorted => k_is)
    (case z_str => k_is)
    (case z_sum => k_is)
    (case z_tuple => k_is)
    (case ca_NoText => k_is)
    (case cq_NoText => k_exc)
    (case ck_NoText => k_is)
    (case cb_NoText => k_is)
    (case ct_NoText => k_is)
    (case cg_NoText => k_is)
    (case ch_NoText => k_is)
    (case cd_NoText => k_is)
    (case cc_NoText => k_is)
    (case cm_NoText => k_is)
    (case cn => k_is)
    (case cx => k_is)
    (case a0 => k_is)
    (case l0 => k_is)
    (case b0 => k_is)
    (case k0 => k_is)
    (case a1 => k_is)
    (case l1 => k_is)
    (case b1 => k_is)
    (case k1 => k_is)
    (case a2 => k_is)
    (case l2 => k_is)
    (case b2 => k_is)
    (case k2 => k_is)
    (case a3 => k_is)
    (case l3 => k_is)
    (case b3 => k_is)
    (case k3 => k_is)
    (case a4 => k_is)
    (case l4 => k_is)
    (case b4 => k_is)
    (case k4 => k_is)
    (case a5 => k_is)
    (case l5 => k_is)
    (case b5 => k_is)
    (case k5 => k_is)
    (case a6 => k_is)
    (case l6 => k_is)
    (case b6 => k_is)
    (case k6 => k_is)
    (case a7 => k_is)
    (case l7 => k_is)
    (case b7 => k_is)
    (case k7 => k_is)
    (case a8 => k_is)
    (case l8 => k_is)
    (case b8 => k_is)
    (case k8 => k_is)
    (case a9 => k_is)
    (case l9 => k_is)
    (case b9 => k_is)
    (case k9 => k_is)
    (case a10 => k_is)
    (case l10 => k_is)
    (case b10 => k_is)
    (case k10 => k_is)
    (case a11 => k_is)
    (case l11 => k_is)
    (case b11 => k_is)
    (case k11 => k_is)
    (case a12 => k_is)
    (case l12 => k_is)
    (case b12 => k_is)
    (case k12 => k_is)
    (case a13 => k_is)
    (case l13 => k_is)
    (case b13 => k_is)
    (case k13 => k_is)
    (case a14 => k_is)
    (case l14 => k_is)
    (case b14 => k_is)
    (case k14 => k_is)
    (case a15 => k_is)
    (case l15 => k_is)
    (case b15 => k_is)
    (case k15 => k_is)
    (case a16 => k_is)
    (case l16 => k_is)
    (case b16 => k_is)
    (case k16 => k_is)
    (case a17 => k_is)
    (case l17 => k_is)
    (case b17 => k_is)
    (case k17 => k_is)
    (case a18 => k_is)
    (case l18 => k_is)
    (case b18 => k_is)
    (case k18 => k_is)
    (case a19 => k_is)
    (case l19 => k_is)
    (case b19 => k_is)
    (case k19 => k_is)
    (case a20 => k_is)
    (case l20 => k_is)
    (case b20 => k_is)
    (case k20 => k_is)
