import PyProof.Rows.All
import Wide.All
import OpenK.AllK
import Wide.FinOn
import HandS.Lambda
import HandS.ForMost
import HandS.Exc
import HandS.ExcOwn
import HandS.WordsExc
import HandS.CallSlots
import HandS.Walk
import HandS.Conv
import HandS.TupAny
import HandS.IsInst
import HandS.Flow
import HandS.Iter
import HandS.Zip
import HandS.Deep
import HandS.TupLe
import HandS.SetFor
import HandS.SetKeys
import HandS.Strs
import PyProof.Rows.SortShellAny
import HandS.Wide
import KE.KUnpackStar
import HandS.Defaults
import HandS.MakeKwOnly
import KE.GoesMore
import HandS.SetBool
import HandS.NoneIn
import HandS.List
import HandS.HotCalls
import KE.KExcMore
import HandS.EndOwn
import HandS.FStr
import HandS.Text
import KE.KxText
import HandS.MakeKw
import KE.KDictWalk
import KE.GoesEnum
import PyProof.ReprRoads
import PyProof.ReprBulk
import PySem.Challenge.RW_standwrit_k07_whom_conditions_take
namespace DD
/-- does the law's own text hold lambdas -/
def lamOn : Bool := false
end DD
set_option Elab.async false
set_option linter.all false
set_option maxRecDepth 100000
set_option maxHeartbeats 4000000
namespace DD
open PySem PySem.Spec L2

/-! ## data, cells, worlds -/
inductive D where
  | non | bl (b : Bool) | int (i : Int) | str (s : Str)
  | tup (xs : List D) | ktp (xs : List D) | lst (xs : List D) | rol (xs : List D) | dct (ks us : List D) | dtt (ks us : List D) | ins (c : Str) (ns : List Str) (us : List D)
  | ref (r : Nat) | glb (x : Str) | ty (n : String)
inductive Cell where
  | lst (xs : List D) | dct (ks us : List D) | dtt (ks us : List D) | ins (c : Str) (ns : List Str) (us : List D) | gone
abbrev Hd := List Cell
/-- what an error bears: its class, its own fields -/
structure Xc where
  c : Str
  ns : List Str
  us : List D
inductive Res (α : Type) where
  | ok (a : α) (h : Hd) | exc (x : Xc) (h : Hd) | bad
def Res.bind {α β : Type} : Res α → (α → Hd → Res β) → Res β
  | .ok a h, k => k a h
  | .exc x h, _ => .exc x h
  | .bad, _ => .bad
abbrev Env := List (Option D)
/-- fixed by the program -/
structure Ct where
  K : PySem.W.Frag
  mg : Str → Option Value
/-- a world: what is frozen, what is pinned, where the cells stand -/
structure Wd where
  F : Hp
  P : Hp
  φ : Nat → Option Addr
structure Le0 (w w' : Wd) : Prop where
  F : ∀ a o, w.F a = some o → w'.F a = some o
  φ : ∀ r a, w.φ r = some a → w'.φ r = some a
structure Le (w w' : Wd) : Prop extends Le0 w w' where
  P : w'.P = w.P
theorem Le0.refl (w : Wd) : Le0 w w := ⟨fun _ _ h => h, fun _ _ h => h⟩
theorem Le0.trans {a b c : Wd} (x : Le0 a b) (y : Le0 b c) : Le0 a c := ⟨fun p o h => y.F p o (x.F p o h), fun r p h => y.φ r p (x.φ r p h)⟩
theorem Le.refl (w : Wd) : Le w w := ⟨.refl w, rfl⟩
theorem Le.trans {a b c : Wd} (x : Le a b) (y : Le b c) : Le a c := ⟨x.toLe0.trans y.toLe0, y.P.trans x.P⟩
def keyD : D → Option Key
  | .int i => some (.inl i)
  | .str s => some (.inr s)
  | _ => none
def keysD : List D → Option (List Key)
  | [] => some []
  | d :: r => match keyD d, keysD r with
    | some k, some l => some (k :: l)
    | _, _ => none
def tkeyD : D → Option (List Key)
  | .tup xs => keysD xs
  | _ => none
def RdK (H : Hp) (a : Addr) (kvs : List (Key × V)) : Prop := Rd H a (.dK kvs)
/-- a tuple that was made -/
def TpAt (K : PySem.W.Frag) (F : Hp) (a : Addr) (vs : List V) : Prop := F a = some (.tup vs)
/-- a tuple written at the top -/
def TpK (K : PySem.W.Frag) (a : Addr) (vs : List V) : Prop := ∃ (o : Obj) (its : Array Value) (n : Nat), K.lookup a = some o ∧ o.cls = .type "tuple" ∧ o.data = .seq its n ∧ its.size ≤ sizeLine ∧ Vals vs its.toList
mutual
def VR (c : Ct) (w : Wd) : D → V → Prop
  | .non, v => v = .non
  | .bl b, v => v = .bl b
  | .int i, v => v = .int i
  | .str s, v => v = .str s
  | .tup xs, v => ∃ a vs, v = .ref a ∧ TpAt c.K w.F a vs ∧ VRs c w xs vs
  | .ktp xs, v => ∃ a vs, v = .ref a ∧ TpK c.K a vs ∧ VRs c w xs vs
  | .lst xs, v => ∃ a vs, v = .ref a ∧ w.F a = some (.lst vs) ∧ VRs c w xs vs
  | .rol xs, v => ∃ a vs, v = .ref a ∧ SqL c.K w.F a vs ∧ VRs c w xs vs
  | .dct ks us, v => ∃ (a : Addr) (od : Obj) (kvs : List (Key × V)), v = .ref a ∧ w.F a = some (.frz od (.dK kvs)) ∧ ks.map keyD = kvs.map (fun p => some p.1) ∧ VRs c w us (kvs.map (·.2))
  | .dtt ks us, v => ∃ (a : Addr) (od : Obj) (kvs : List (List Key × V)), v = .ref a ∧ w.F a = some (.frz od (.dT kvs)) ∧ ks.map tkeyD = kvs.map (fun p => some p.1) ∧ VRs c w us (kvs.map (·.2))
  | .ins n ns us, v => ∃ a C dx fs, v = .ref a ∧ c.mg n = some (.ref C) ∧ w.F a = some (.ins C dx fs) ∧ ns = fs.map (·.1) ∧ VRs c w us (fs.map (·.2)) ∧ ∀ f ∈ ns, NoAttr c.K C f
  | .ref r, v => ∃ a, v = .ref a ∧ w.φ r = some a
  | .glb x, v => ∃ a, v = .ref a ∧ c.mg x = some (.ref a)
  | .ty n, v => v = .ty n
def VRs (c : Ct) (w : Wd) : List D → List V → Prop
  | [], vs => vs = []
  | d :: ds, vs => ∃ v r, vs = v :: r ∧ VR c w d v ∧ VRs c w ds r
end
theorem Rd.le {F F' : Hp} {a : Addr} {u : HO} (h : ∀ a o, F a = some o → F' a = some o) (r : Rd F a u) : Rd F' a u := by
  rcases r with r | ⟨o, r⟩
  · exact .inl (h _ _ r)
  · exact .inr ⟨o, h _ _ r⟩
theorem SqL_le {K : PySem.W.Frag} {F F' : Hp} {a : Addr} {vs : List V} (h : ∀ a o, F a = some o → F' a = some o) (r : SqL K F a vs) : SqL K F' a vs := by
  rcases r with r | r
  · exact .inl (Rd.le h r)
  · exact .inr r
theorem TpAt_le {K : PySem.W.Frag} {F F' : Hp} {a : Addr} {vs : List V} (h : ∀ a o, F a = some o → F' a = some o) (r : TpAt K F a vs) : TpAt K F' a vs := h _ _ r
theorem SqT_le {K : PySem.W.Frag} {F F' : Hp} {a : Addr} {vs : List V} (h : ∀ a o, F a = some o → F' a = some o) (r : TpAt K F a vs) : SqT K F' a vs := .inl (.inl (h _ _ r))
theorem TpK.sq {K : PySem.W.Frag} {H : Hp} {a : Addr} {vs : List V} (r : TpK K a vs) : SqT K H a vs := .inr r
mutual
theorem VR.le0 {c : Ct} {w w' : Wd} (l : Le0 w w') : ∀ {d : D} {v : V}, VR c w d v → VR c w' d v
  | .non, v, h => by simpa only [VR] using h
  | .bl b, v, h => by simpa only [VR] using h
  | .int i, v, h => by simpa only [VR] using h
  | .str s, v, h => by simpa only [VR] using h
  | .tup xs, v, h => by
    simp only [VR] at h ⊢
    obtain ⟨a, vs, e, q, r⟩ := h
    exact ⟨a, vs, e, TpAt_le l.F q, VRs.le0 l r⟩
  | .ktp xs, v, h => by
    simp only [VR] at h ⊢
    obtain ⟨a, vs, e, q, r⟩ := h
    exact ⟨a, vs, e, q, VRs.le0 l r⟩
  | .lst xs, v, h => by
    simp only [VR] at h ⊢
    obtain ⟨a, vs, e, q, r⟩ := h
    exact ⟨a, vs, e, l.F _ _ q, VRs.le0 l r⟩
  | .rol xs, v, h => by
    simp only [VR] at h ⊢
    obtain ⟨a, vs, e, q, r⟩ := h
    exact ⟨a, vs, e, SqL_le l.F q, VRs.le0 l r⟩
  | .dct ks us, v, h => by
    simp only [VR] at h ⊢
    obtain ⟨a, od, kvs, e, q, k, r⟩ := h
    exact ⟨a, od, kvs, e, l.F _ _ q, k, VRs.le0 l r⟩
  | .dtt ks us, v, h => by
    simp only [VR] at h ⊢
    obtain ⟨a, od, kvs, e, q, k, r⟩ := h
    exact ⟨a, od, kvs, e, l.F _ _ q, k, VRs.le0 l r⟩
  | .ins n ns us, v, h => by
    simp only [VR] at h ⊢
    obtain ⟨a, C, dx, fs, e, m, q, k, r, na⟩ := h
    exact ⟨a, C, dx, fs, e, m, l.F _ _ q, k, VRs.le0 l r, na⟩
  | .ref r, v, h => by
    simp only [VR] at h ⊢
    obtain ⟨a, e, q⟩ := h
    exact ⟨a, e, l.φ _ _ q⟩
  | .glb x, v, h => by simpa only [VR] using h
  | .ty n, v, h => by simpa only [VR] using h
theorem VRs.le0 {c : Ct} {w w' : Wd} (l : Le0 w w') : ∀ {ds : List D} {vs : List V}, VRs c w ds vs → VRs c w' ds vs
  | [], vs, h => by simpa only [VRs] using h
  | d :: ds, vs, h => by
    simp only [VRs] at h ⊢
    obtain ⟨v, r, e, q, z⟩ := h
    exact ⟨v, r, e, VR.le0 l q, VRs.le0 l z⟩
end
theorem VR.le {c : Ct} {w w' : Wd} (l : Le w w') {d : D} {v : V} (h : VR c w d v) : VR c w' d v := VR.le0 l.toLe0 h
theorem VRs.le {c : Ct} {w w' : Wd} (l : Le w w') {d : List D} {v : List V} (h : VRs c w d v) : VRs c w' d v := VRs.le0 l.toLe0 h
section
variable {c : Ct} {w : Wd}
theorem VRs.nil : VRs c w [] [] := by simp only [VRs]
theorem VRs.cons {d : D} {v : V} {ds : List D} {vs : List V} (h : VR c w d v) (r : VRs c w ds vs) : VRs c w (d :: ds) (v :: vs) := by
  simp only [VRs]; exact ⟨v, vs, rfl, h, r⟩
theorem VRs.len : ∀ {ds : List D} {vs : List V}, VRs c w ds vs → ds.length = vs.length
  | [], _, h => by simp only [VRs] at h; subst h; rfl
  | d :: ds, _, h => by
    simp only [VRs] at h
    obtain ⟨v, r, rfl, _, z⟩ := h
    simp [VRs.len z]
theorem VRs.get : ∀ {ds : List D} {vs : List V} {i : Nat} {d : D}, VRs c w ds vs → ds[i]? = some d → ∃ v, vs[i]? = some v ∧ VR c w d v
  | [], _, _, _, _, e => by simp at e
  | x :: ds, _, 0, d, h, e => by
    simp only [VRs] at h
    obtain ⟨v, r, rfl, q, z⟩ := h
    simp at e; subst e
    exact ⟨v, rfl, q⟩
  | x :: ds, _, i + 1, d, h, e => by
    simp only [VRs] at h
    obtain ⟨v, r, rfl, q, z⟩ := h
    obtain ⟨u, e1, e2⟩ := VRs.get (i := i) z (by simpa using e)
    exact ⟨u, by simpa using e1, e2⟩
theorem VRs.get' {ds : List D} {vs : List V} {i : Nat} {v : V} (h : VRs c w ds vs) (e : vs[i]? = some v) : ∃ d, ds[i]? = some d ∧ VR c w d v := by
  have hl := h.len
  have hi : i < ds.length := by rw [hl]; exact (List.getElem?_eq_some_iff.mp e).1
  have e1 : ds[i]? = some ds[i] := List.getElem?_eq_getElem hi
  obtain ⟨u, e2, r⟩ := h.get e1
  rw [e] at e2; cases e2
  exact ⟨_, e1, r⟩
theorem VRs.append : ∀ {ds es : List D} {vs us : List V}, VRs c w ds vs → VRs c w es us → VRs c w (ds ++ es) (vs ++ us)
  | [], es, _, us, h, g => by simp only [VRs] at h; subst h; exact g
  | d :: ds, es, _, us, h, g => by
    simp only [VRs] at h
    obtain ⟨v, r, rfl, q, z⟩ := h
    exact VRs.cons q (VRs.append z g)
theorem VRs.one {d : D} {v : V} (h : VR c w d v) : VRs c w [d] [v] := .cons h .nil
theorem VRs.of_get : ∀ {ds : List D} {vs : List V}, ds.length = vs.length → (∀ (i : Nat) (d : D) (v : V), ds[i]? = some d → vs[i]? = some v → VR c w d v) → VRs c w ds vs
  | [], [], _, _ => .nil
  | [], _ :: _, h, _ => by simp at h
  | _ :: _, [], h, _ => by simp at h
  | d :: ds, v :: vs, h, g => .cons (g 0 d v rfl rfl) (VRs.of_get (by simpa using h) fun i d v e1 e2 => g (i + 1) d v (by simpa using e1) (by simpa using e2))
theorem VRs.take {ds : List D} {vs : List V} (n : Nat) (h : VRs c w ds vs) : VRs c w (ds.take n) (vs.take n) :=
  .of_get (by simp [h.len]) fun i d v e1 e2 => by
    rw [List.getElem?_take] at e1 e2
    split at e1
    · rename_i hi
      rw [if_pos hi] at e2
      obtain ⟨u, q, r⟩ := h.get e1
      rw [q] at e2; cases e2; exact r
    · cases e1
theorem VRs.drop {ds : List D} {vs : List V} (n : Nat) (h : VRs c w ds vs) : VRs c w (ds.drop n) (vs.drop n) :=
  .of_get (by simp [h.len]) fun i d v e1 e2 => by
    rw [List.getElem?_drop] at e1 e2
    obtain ⟨u, q, r⟩ := h.get e1
    rw [q] at e2; cases e2; exact r
theorem VRs.set {ds : List D} {vs : List V} {d : D} {v : V} (n : Nat) (h : VRs c w ds vs) (q : VR c w d v) : VRs c w (ds.set n d) (vs.set n v) :=
  .of_get (by simp [h.len]) fun i x y e1 e2 => by
    rw [List.getElem?_set] at e1 e2
    rw [h.len] at e1
    split at e1
    · rename_i hi
      rw [if_pos hi] at e2
      split at e1
      · rename_i hj
        rw [if_pos hj] at e2
        cases e1; cases e2; exact q
      · cases e1
    · rename_i hi
      rw [if_neg hi] at e2
      obtain ⟨u, q, r⟩ := h.get e1
      rw [q] at e2; cases e2; exact r
end

/-! ## states -/
def CellOk (c : Ct) (w : Wd) (H : Hp) (a : Addr) : Cell → Prop
  | .lst xs => ∃ vs, H a = some (.lst vs) ∧ VRs c w xs vs
  | .dct ks us => ∃ kvs : List (Key × V), H a = some (.dK kvs) ∧ ks.map keyD = kvs.map (fun p => some p.1) ∧ VRs c w us (kvs.map (·.2))
  | .dtt ks us => ∃ kvs : List (List Key × V), H a = some (.dT kvs) ∧ ks.map tkeyD = kvs.map (fun p => some p.1) ∧ VRs c w us (kvs.map (·.2))
  | .ins n ns us => ∃ C dx fs, c.mg n = some (.ref C) ∧ H a = some (.ins C dx fs) ∧ ns = fs.map (·.1) ∧ VRs c w us (fs.map (·.2)) ∧ ∀ f ∈ ns, NoAttr c.K C f
  | .gone => True
theorem CellOk.le0 {c : Ct} {w w' : Wd} {H H' : Hp} {a : Addr} {z : Cell} (l : Le0 w w') (e : H' a = H a) (h : CellOk c w H a z) : CellOk c w' H' a z := by
  cases z with
  | lst xs => obtain ⟨vs, q, r⟩ := h; exact ⟨vs, e.trans q, r.le0 l⟩
  | dct ks us => obtain ⟨kvs, q, k, r⟩ := h; exact ⟨kvs, e.trans q, k, r.le0 l⟩
  | dtt ks us => obtain ⟨kvs, q, k, r⟩ := h; exact ⟨kvs, e.trans q, k, r.le0 l⟩
  | ins n ns us => obtain ⟨C, dx, fs, m, q, k, r, na⟩ := h; exact ⟨C, dx, fs, m, e.trans q, k, r.le0 l, na⟩
  | gone => trivial
theorem CellOk.le {c : Ct} {w w' : Wd} {H H' : Hp} {a : Addr} {z : Cell} (l : Le w w') (e : H' a = H a) (h : CellOk c w H a z) : CellOk c w' H' a z := CellOk.le0 l.toLe0 e h
/-- the name that the law's own lambdas bear -/
def lamQ : Str := ("law" ++ ".<locals>.") ++ "<lambda>"
/-- P: the table of the law's own code object -/
def lawTab (K : PySem.W.Frag) (mg : Str → Option Value) (P : Addr) : Prop := lamOn = true ∧ ∃ (f c : Addr) (o : Obj) (fd : FuncData), mg "law" = some (.ref f) ∧ K.lookup f = some o ∧ o.data = .func fd ∧ fd.code = .ref c ∧ PySem.W.codeHdIn K c P = true
/-- no table, no code object -/
def plainO (o : HO) : Prop := (∀ ps, o ≠ .tbl ps) ∧ ∀ a q, o ≠ LamX.CodeO a q
theorem plain_lst (xs : List V) : plainO (.lst xs) := ⟨fun _ h => (by cases h), fun _ _ h => (by unfold LamX.CodeO at h; cases h)⟩
theorem plain_tup (xs : List V) : plainO (.tup xs) := ⟨fun _ h => (by cases h), fun _ _ h => (by unfold LamX.CodeO at h; cases h)⟩
theorem plain_dK (xs : List (Key × V)) : plainO (.dK xs) := ⟨fun _ h => (by cases h), fun _ _ h => (by unfold LamX.CodeO at h; cases h)⟩
theorem plain_dT (xs : List (List Key × V)) : plainO (.dT xs) := ⟨fun _ h => (by cases h), fun _ _ h => (by unfold LamX.CodeO at h; cases h)⟩
theorem plain_ins (C : Addr) (dx : Addr) (fs : List (Str × V)) : plainO (.ins C dx fs) := ⟨fun _ h => (by cases h), fun _ _ h => (by unfold LamX.CodeO at h; cases h)⟩
theorem plain_frz (od : Obj) (u : HO) : plainO (.frz od u) := ⟨fun _ h => (by cases h), fun _ _ h => (by unfold LamX.CodeO at h; cases h)⟩
/-- what may be pinned: no tuple either -/
def pinO (o : HO) : Prop := plainO o ∧ ∀ xs, o ≠ .tup xs
theorem pin_lst (xs : List V) : pinO (.lst xs) := ⟨plain_lst xs, fun _ h => (by cases h)⟩
theorem pin_dK (xs : List (Key × V)) : pinO (.dK xs) := ⟨plain_dK xs, fun _ h => (by cases h)⟩
theorem pin_dT (xs : List (List Key × V)) : pinO (.dT xs) := ⟨plain_dT xs, fun _ h => (by cases h)⟩
theorem CellOk.plain {c : Ct} {w : Wd} {H : Hp} {a : Addr} {z : Cell} {o : HO} (h : CellOk c w H a z) (g : z ≠ .gone) (e : H a = some o) : plainO o := by
  cases z with
  | lst xs => obtain ⟨vs, q, _⟩ := h; rw [q] at e; cases e; exact plain_lst _
  | dct ks us => obtain ⟨_, q, _⟩ := h; rw [q] at e; cases e; exact plain_dK _
  | dtt ks us => obtain ⟨_, q, _⟩ := h; rw [q] at e; cases e; exact plain_dT _
  | ins n ns us => obtain ⟨_, _, _, _, q, _⟩ := h; rw [q] at e; cases e; exact plain_ins _ _ _
  | gone => exact absurd rfl g
structure TabOk (c : Ct) (w : Wd) (H : Hp) : Prop where
  tb : ∀ P, lawTab c.K c.mg P → (∃ ps : Array Value, H P = some (.tbl ps) ∧ TriplesOk ps.toList ∧ ∀ (pos : Pos) (cv : Value), codeAmong pos ps.toList = some cv → ∃ b, cv = .ref b ∧ w.F b = some (LamX.CodeO b lamQ)) ∧ w.F P = none ∧ w.P P = none ∧ ∀ r, w.φ r ≠ some P
  nF : ∀ a o, w.F a = some o → ∀ ps, o ≠ .tbl ps
  nP : ∀ a o, w.P a = some o → pinO o
structure SR (c : Ct) (w : Wd) (h : Hd) (H : Hp) : Prop where
  F : ∀ a o, w.F a = some o → H a = some o
  P : ∀ a o, w.P a = some o → H a = some o
  pin : ∀ a o, w.P a = some o → w.F a = none ∧ ∀ r, w.φ r ≠ some a
  cell : ∀ r z, h[r]? = some z → z ≠ .gone → ∃ a, w.φ r = some a ∧ w.F a = none ∧ w.P a = none ∧ CellOk c w H a z
  inj : ∀ r r' a, w.φ r = some a → w.φ r' = some a → r = r'
  dom : ∀ r a, w.φ r = some a → r < h.length ∧ ∃ o, H a = some o
  tab : TabOk c w H
  ng : ∀ (r : Nat) (a : Addr), h[r]? = some Cell.gone → w.φ r = some a → ∃ o, w.F a = some o ∧ plainO o
/-- something is written that is no table -/
theorem TabOk.upd {c : Ct} {w : Wd} {H : Hp} {a : Addr} (t : TabOk c w H) (n : ∀ P, lawTab c.K c.mg P → P ≠ a) (o : HO) : TabOk c w (upd H a o) :=
  ⟨fun P l => by
    obtain ⟨⟨ps, e, r⟩, q⟩ := t.tb P l
    exact ⟨⟨ps, by rw [upd_ne (n P l)]; exact e, r⟩, q⟩, t.nF, t.nP⟩
theorem TabOk.ne {c : Ct} {w : Wd} {H : Hp} {a : Addr} (t : TabOk c w H) (n : ∀ ps, H a ≠ some (.tbl ps)) : ∀ P, lawTab c.K c.mg P → P ≠ a := fun P l z => by
  obtain ⟨⟨ps, e, _⟩, _⟩ := t.tb P l
  exact n ps (z ▸ e)
def ER (c : Ct) (w : Wd) (ρ : Env) (σ : St) : Prop := ρ.length = σ.length ∧ ∀ (i : Nat) (d : D), ρ[i]? = some (some d) → ∃ v, σ[i]? = some (some v) ∧ VR c w d v
theorem ER.le0 {c : Ct} {w w' : Wd} {ρ : Env} {σ : St} (l : Le0 w w') (h : ER c w ρ σ) : ER c w' ρ σ := ⟨h.1, fun i d e => let ⟨v, q, r⟩ := h.2 i d e; ⟨v, q, r.le0 l⟩⟩
theorem ER.le {c : Ct} {w w' : Wd} {ρ : Env} {σ : St} (l : Le w w') (h : ER c w ρ σ) : ER c w' ρ σ := h.le0 l.toLe0
theorem ER.set {c : Ct} {w : Wd} {ρ : Env} {σ : St} {d : D} {v : V} (h : ER c w ρ σ) (i : Nat) (r : VR c w d v) : ER c w (ρ.set i (some d)) (σ.set i (some v)) := by
  refine ⟨by simp [h.1], fun j x e => ?_⟩
  rw [List.getElem?_set] at e
  split at e
  · rename_i hij
    split at e
    · rename_i hl
      cases e
      refine ⟨v, ?_, r⟩
      rw [hij, List.getElem?_set_self (by rw [← h.1, ← hij]; exact hl)]
    · cases e
  · rename_i hij
    obtain ⟨u, q, z⟩ := h.2 j x e
    exact ⟨u, by rw [List.getElem?_set_ne hij]; exact q, z⟩
def wipeD (ρ : Env) : List Nat → Env
  | [] => ρ
  | v :: vs => (wipeD ρ vs).set v none
theorem wipeD_length (ρ : Env) : ∀ vs : List Nat, (wipeD ρ vs).length = ρ.length
  | [] => rfl
  | v :: vs => by simp [wipeD, wipeD_length ρ vs]
theorem wipeD_some {ρ : Env} {i : Nat} {x : D} : ∀ {vs : List Nat}, (wipeD ρ vs)[i]? = some (some x) → ρ[i]? = some (some x) ∧ i ∉ vs
  | [], h => ⟨h, by simp⟩
  | v :: vs, h => by
    simp only [wipeD] at h
    rw [List.getElem?_set] at h
    split at h
    · split at h <;> cases h
    · rename_i hv
      obtain ⟨a, b⟩ := wipeD_some h
      exact ⟨a, by simp only [List.mem_cons, not_or]; exact ⟨fun e => hv e.symm, b⟩⟩
theorem ER.wipe {c : Ct} {w : Wd} {ρ : Env} {σ : St} (h : ER c w ρ σ) (vs : List Nat) : ER c w (wipeD ρ vs) (wipe σ vs) := by
  refine ⟨by rw [wipeD_length, wipe_length]; exact h.1, fun i d e => ?_⟩
  obtain ⟨a, b⟩ := wipeD_some e
  obtain ⟨v, q, r⟩ := h.2 i d a
  exact ⟨v, by rw [wipe_out b]; exact q, r⟩

/-- an error as it lies -/
def XR (c : Ct) (w : Wd) (x : Xc) (cls : Value) (dx : Option Addr) (H : Hp) : Prop :=
  ∃ C, c.mg x.c = some (.ref C) ∧ cls = .ref C ∧ ((x.ns = [] ∧ dx = none) ∨ x.ns ≠ [] ∧ ∃ d fs, dx = some d ∧ H d = some (.xd fs) ∧ x.ns = fs.map (·.1) ∧ VRs c w x.us (fs.map (·.2)))

/-! ## what is wanted behind -/
def Post {α β : Type} (R : Wd → Hp → α → β → Prop) (c : Ct) (w : Wd) (W : WX) (σ : St) (r : Res α) (Q : β → Hp → Prop) : Prop :=
  match r with
  | .ok d h => ∀ v w' H', Le w w' → R w' H' d v → SR c w' h H' → Q v H'
  | .exc x h => ∀ cls dx w' H', Le w w' → SR c w' h H' → XR c w' x cls dx H' → W cls dx σ H'
  | .bad => False
theorem Post.le {α β : Type} {R : Wd → Hp → α → β → Prop} {c : Ct} {w w' : Wd} {W : WX} {σ : St} {r : Res α} {Q : β → Hp → Prop} (l : Le w w') (h : Post R c w W σ r Q) : Post R c w' W σ r Q := by
  cases r with
  | ok d hd => exact fun v w2 H2 l2 => h v w2 H2 (l.trans l2)
  | exc x hd => exact fun cls dx w2 H2 l2 => h cls dx w2 H2 (l.trans l2)
  | bad => exact h
theorem Post.bind {α β γ δ : Type} {R : Wd → Hp → α → β → Prop} {R2 : Wd → Hp → γ → δ → Prop} {c : Ct} {w : Wd} {W : WX} {σ : St} {r : Res α} {k : α → Hd → Res γ} {Q : δ → Hp → Prop} (h : Post R2 c w W σ (r.bind k) Q) :
    Post R c w W σ r (fun v H1 => ∃ w1 h1 d, Le w w1 ∧ R w1 H1 d v ∧ SR c w1 h1 H1 ∧ Post R2 c w1 W σ (k d h1) Q) := by
  cases r with
  | ok d hd => exact fun v w1 H1 l x s => ⟨w1, hd, d, l, x, s, Post.le l h⟩
  | exc x hd => exact h
  | bad => exact h
theorem Post.mono {α β : Type} {R : Wd → Hp → α → β → Prop} {c : Ct} {w : Wd} {W : WX} {σ : St} {r : Res α} {Q Q' : β → Hp → Prop} (h : Post R c w W σ r Q) (i : ∀ v H, Q v H → Q' v H) : Post R c w W σ r Q' := by
  cases r with
  | ok d hd => exact fun v w2 H2 l x s => i _ _ (h v w2 H2 l x s)
  | exc x hd => exact h
  | bad => exact h
abbrev RV (c : Ct) : Wd → Hp → D → V → Prop := fun w _ d v => VR c w d v
abbrev RVs (c : Ct) : Wd → Hp → List D → List V → Prop := fun w _ d v => VRs c w d v
abbrev RB : Wd → Hp → Bool → Bool → Prop := fun _ _ a b => a = b
abbrev ME := Env → Hd → Res D
abbrev MT := Env → Hd → Res Bool
abbrev MA := Env → Hd → Res (List D)
def tP {α β : Type} (R : Wd → Hp → α → β → Prop) (c : Ct) (W : WX) (m : Env → Hd → Res α) : St → Hp → (β → Hp → Prop) → Prop := fun σ H Q => ∃ w ρ h, ER c w ρ σ ∧ SR c w h H ∧ Post R c w W σ (m ρ h) Q
abbrev tE (c : Ct) (W : WX) (m : ME) : TE := tP (RV c) c W m
abbrev tT (c : Ct) (W : WX) (m : MT) : TT := tP RB c W m
abbrev tAr (c : Ct) (W : WX) (m : MA) : TA := tP (RVs c) c W m
/-- the judgements -/
abbrev Cx.ct (X : Cx) : Ct := ⟨X.K, X.mg⟩
def SE (X : Cx) (W : WX) (e : Expr) (m : ME) : Prop := PE X e (tE (Cx.ct X) W m)
def ST (X : Cx) (W : WX) (e : Expr) (m : MT) : Prop := PT X e (tT (Cx.ct X) W m)
def SW (X : Cx) (W : WX) (e : Expr) (m : MT) : Prop := PW X e (tT (Cx.ct X) W m)
def SA (X : Cx) (W : WX) (es : List Expr) (m : MA) : Prop := PA X es (tAr (Cx.ct X) W m)
theorem PE.imp {X : Cx} {e : Expr} {t t' : TE} (h : PE X e t) (i : ∀ σ H Q, t' σ H Q → t σ H Q) : PE X e t' := ⟨fun pins s σ H Q I q => h.run pins s σ H Q I (i _ _ _ q)⟩
theorem PT.imp {X : Cx} {e : Expr} {t t' : TT} (h : PT X e t) (i : ∀ σ H Q, t' σ H Q → t σ H Q) : PT X e t' := ⟨fun pins s σ H Q I q => h.run pins s σ H Q I (i _ _ _ q)⟩
theorem PW.imp {X : Cx} {e : Expr} {t t' : TT} (h : PW X e t) (i : ∀ σ H Q, t' σ H Q → t σ H Q) : PW X e t' := ⟨fun wh pins s σ H Q I q => h.run wh pins s σ H Q I (i _ _ _ q)⟩
theorem PA.imp {X : Cx} {e : List Expr} {t t' : TA} (h : PA X e t) (i : ∀ σ H Q, t' σ H Q → t σ H Q) : PA X e t' := ⟨fun pos pins s σ H Q I q => h.run pos pins s σ H Q I (i _ _ _ q)⟩
theorem PS.imp {X : Cx} {e : Stmt} {t t' : TS} (h : PS X e t) (i : ∀ D σ H, t' D σ H → t D σ H) : PS X e t' := ⟨fun pins s σ H D I q => h.run pins s σ H D I (i _ _ _ q)⟩
theorem PSs.imp {X : Cx} {e : List Stmt} {t t' : TS} (h : PSs X e t) (i : ∀ D σ H, t' D σ H → t D σ H) : PSs X e t' := ⟨fun pins s σ H D I q => h.run pins s σ H D I (i _ _ _ q)⟩
/-- two in a row -/
theorem tP.bind {α β γ δ : Type} {R : Wd → Hp → α → β → Prop} {R2 : Wd → Hp → γ → δ → Prop} {c : Ct} {W : WX} {m : Env → Hd → Res α} {k : Env → α → Hd → Res γ} {σ : St} {H : Hp} {Q : δ → Hp → Prop}
    (h : tP R2 c W (fun ρ h => (m ρ h).bind (k ρ)) σ H Q) : tP R c W m σ H (fun v H1 => ∃ w1 ρ h1 d, ER c w1 ρ σ ∧ SR c w1 h1 H1 ∧ R w1 H1 d v ∧ Post R2 c w1 W σ (k ρ d h1) Q) := by
  obtain ⟨w, ρ, hd, e, s, p⟩ := h
  exact ⟨w, ρ, hd, e, s, (Post.bind p).mono fun v H1 ⟨w1, h1, d, l, r, s1, p1⟩ => ⟨w1, ρ, h1, d, e.le l, s1, r, p1⟩⟩
theorem tP.mono {α β : Type} {R : Wd → Hp → α → β → Prop} {c : Ct} {W : WX} {m : Env → Hd → Res α} {σ : St} {H : Hp} {Q Q' : β → Hp → Prop} (h : tP R c W m σ H Q) (i : ∀ v H, Q v H → Q' v H) : tP R c W m σ H Q' := by
  obtain ⟨w, ρ, hd, e, s, p⟩ := h
  exact ⟨w, ρ, hd, e, s, p.mono i⟩
theorem Post.ret {α β : Type} {R : Wd → Hp → α → β → Prop} {c : Ct} {w : Wd} {W : WX} {σ : St} {d : α} {h : Hd} {Q : β → Hp → Prop} {v : β} {H : Hp} (p : Post R c w W σ (.ok d h) Q) (r : R w H d v) (s : SR c w h H) : Q v H := p v w H (.refl w) r s
end DD
set_option Elab.async false
set_option linter.all false
set_option maxRecDepth 100000
set_option maxHeartbeats 4000000
namespace DD
open PySem PySem.Spec L2

/-! ## new objects -/
inductive O where
  | val (d : D) | new (z : Cell)
structure FreshAt (w : Wd) (a : Addr) : Prop where
  F : w.F a = none
  P : w.P a = none
  φ : ∀ r, w.φ r ≠ some a
def RO (c : Ct) : Wd → Hp → O → V → Prop := fun w H o v => match o with
  | .val d => VR c w d v
  | .new z => z ≠ .gone ∧ ∃ a, v = .ref a ∧ FreshAt w a ∧ CellOk c w H a z
def fzC : Cell → D
  | .lst xs => .lst xs
  | .dct ks us => .dct ks us
  | .dtt ks us => .dtt ks us
  | .ins n ns us => .ins n ns us
  | .gone => .non
def O.fz : O → D
  | .val d => d
  | .new z => fzC z
theorem CellOk.some {c : Ct} {w : Wd} {H : Hp} {a : Addr} {z : Cell} (h : CellOk c w H a z) (g : z ≠ .gone) : ∃ o, H a = some o := by
  cases z with
  | lst xs => obtain ⟨vs, q, _⟩ := h; exact ⟨_, q⟩
  | dct ks us => obtain ⟨_, q, _⟩ := h; exact ⟨_, q⟩
  | dtt ks us => obtain ⟨_, q, _⟩ := h; exact ⟨_, q⟩
  | ins n ns us => obtain ⟨_, _, _, _, q, _⟩ := h; exact ⟨_, q⟩
  | gone => exact absurd rfl g
/-- a dict is frozen as it lies -/
def isDc : Cell → Bool
  | .dct _ _ => true
  | .dtt _ _ => true
  | _ => false
def fzO (z : Cell) (od : Obj) (o : HO) : HO := if isDc z then .frz od o else o
theorem VR_fz {c : Ct} {w w' : Wd} {H : Hp} {a : Addr} {z : Cell} {o : HO} {od : Obj} (h : CellOk c w H a z) (g : z ≠ .gone) (e : H a = some o) (l : Le w w') (f : w'.F a = some (fzO z od o)) : VR c w' (fzC z) (.ref a) := by
  cases z with
  | lst xs =>
    obtain ⟨vs, q, r⟩ := h
    rw [q] at e; cases e
    simp only [fzC, VR]; exact ⟨a, vs, rfl, f, r.le l⟩
  | dct ks us =>
    obtain ⟨kvs, q, k, r⟩ := h
    rw [q] at e; cases e
    simp only [fzC, VR]; exact ⟨a, od, kvs, rfl, f, k, r.le l⟩
  | dtt ks us =>
    obtain ⟨kvs, q, k, r⟩ := h
    rw [q] at e; cases e
    simp only [fzC, VR]; exact ⟨a, od, kvs, rfl, f, k, r.le l⟩
  | ins n ns us =>
    obtain ⟨C, dx, fs, m, q, k, r, na⟩ := h
    rw [q] at e; cases e
    simp only [fzC, VR]; exact ⟨a, C, dx, fs, rfl, m, f, k, r.le l, na⟩
  | gone => exact absurd rfl g
def Wd.fzAt (w : Wd) (a : Addr) (o : HO) : Wd := { w with F := upd w.F a o }
def Wd.ownAt (w : Wd) (n : Nat) (a : Addr) : Wd := { w with φ := fun r => if r = n then some a else w.φ r }
section
variable {c : Ct} {w : Wd} {h : Hd} {H : Hp} {a : Addr} {z : Cell} {o : HO}
theorem FreshAt.of (s : SR c w h H) (e : H a = none) : FreshAt w a := by
  refine ⟨?_, ?_, fun r q => ?_⟩
  · cases q : w.F a with
    | none => rfl
    | some o => rw [s.F a o q] at e; cases e
  · cases q : w.P a with
    | none => rfl
    | some o => rw [s.P a o q] at e; cases e
  · obtain ⟨_, o, z⟩ := s.dom r a q
    rw [e] at z; cases z
/-- something new is laid, not yet ours -/
theorem SR.laid (s : SR c w h H) (e : H a = none) (o : HO) : SR c w h (upd H a o) where
  F := fun b u q => by rw [upd_ne (ne_of_none (s.F b u q) e)]; exact s.F b u q
  P := fun b u q => by rw [upd_ne (ne_of_none (s.P b u q) e)]; exact s.P b u q
  pin := s.pin
  cell := fun r z q g => by
    obtain ⟨b, q1, q2, q3, q4⟩ := s.cell r z q g
    obtain ⟨u, q5⟩ := q4.some g
    exact ⟨b, q1, q2, q3, q4.le (.refl w) (upd_ne (ne_of_none q5 e))⟩
  inj := s.inj
  dom := fun r b q => by
    obtain ⟨l, u, q1⟩ := s.dom r b q
    exact ⟨l, u, by rw [upd_ne (ne_of_none q1 e)]; exact q1⟩
  tab := s.tab.upd (s.tab.ne fun ps z => by rw [e] at z; cases z) o
  ng := s.ng
theorem SR.fz (s : SR c w h H) (f : FreshAt w a) (e : H a = some o) (n : plainO o) : Le w (w.fzAt a o) ∧ SR c (w.fzAt a o) h H := by
  have l : Le w (w.fzAt a o) := ⟨⟨fun b u q => by
    show upd w.F a o b = some u
    rw [upd_ne (ne_of_none q f.F)]; exact q, fun _ _ q => q⟩, rfl⟩
  refine ⟨l, ⟨fun b u q => ?_, s.P, fun b u q => ⟨?_, (s.pin b u q).2⟩, fun r z q g => ?_, s.inj, s.dom, ?_, fun r b q e => let ⟨u, q1, p⟩ := s.ng r b q e; ⟨u, l.F _ _ q1, p⟩⟩⟩
  · by_cases hb : b = a
    · subst hb
      have q' : upd w.F b o b = some u := q
      rw [upd_same] at q'; cases q'; exact e
    · have q' : upd w.F a o b = some u := q
      rw [upd_ne hb] at q'; exact s.F b u q'
  · show upd w.F a o b = none
    have q' : w.P b = some u := q
    rw [upd_ne (by rintro rfl; rw [f.P] at q'; cases q')]; exact (s.pin b u q).1
  · obtain ⟨b, q1, q2, q3, q4⟩ := s.cell r z q g
    refine ⟨b, q1, ?_, q3, q4.le l rfl⟩
    show upd w.F a o b = none
    rw [upd_ne (by rintro rfl; exact f.φ r q1)]; exact q2
  · have ne := s.tab.ne (a := a) fun ps z => n.1 ps (Option.some.inj (e.symm.trans z))
    refine ⟨fun P l1 => ?_, fun b u q => ?_, s.tab.nP⟩
    · obtain ⟨⟨ps, e1, e2, e3⟩, q1, q2, q3⟩ := s.tab.tb P l1
      refine ⟨⟨ps, e1, e2, fun pos cv k => ?_⟩, by show upd w.F a o P = none; rw [upd_ne (ne P l1)]; exact q1, q2, q3⟩
      obtain ⟨b, e4, e5⟩ := e3 pos cv k
      exact ⟨b, e4, l.F _ _ e5⟩
    · have q' : upd w.F a o b = some u := q
      by_cases hb : b = a
      · subst hb; rw [upd_same] at q'; cases q'; exact n.1
      · rw [upd_ne hb] at q'; exact s.tab.nF b u q'
theorem SR.own (s : SR c w h H) (f : FreshAt w a) (g : z ≠ .gone) (k : CellOk c w H a z) : Le w (w.ownAt h.length a) ∧ SR c (w.ownAt h.length a) (h ++ [z]) H ∧ VR c (w.ownAt h.length a) (.ref h.length) (.ref a) := by
  have l : Le w (w.ownAt h.length a) := ⟨⟨fun b u q => q, fun r b q => by
    show (if r = h.length then some a else w.φ r) = some b
    rw [if_neg (Nat.ne_of_lt (s.dom r b q).1)]; exact q⟩, rfl⟩
  refine ⟨l, ⟨s.F, s.P, fun b u q => ⟨(s.pin b u q).1, fun r z => ?_⟩, fun r y q gy => ?_, fun r r' b q q' => ?_, fun r b q => ?_, ?_, fun r b q e => ?_⟩, by simp only [VR]; exact ⟨a, rfl, by show (if h.length = h.length then some a else _) = _; rw [if_pos rfl]⟩⟩
  · have z' : (if r = h.length then some a else w.φ r) = some b := z
    have q' : w.P b = some u := q
    split at z'
    · cases z'; rw [f.P] at q'; cases q'
    · exact (s.pin b u q).2 r z'
  · by_cases hr : r < h.length
    · rw [List.getElem?_append_left hr] at q
      obtain ⟨b, q1, q2, q3, q4⟩ := s.cell r y q gy
      exact ⟨b, l.φ _ _ q1, q2, q3, q4.le l rfl⟩
    · have hr' : r = h.length := by
        have := (List.getElem?_eq_some_iff.mp q).1
        simp at this; omega
      subst hr'
      rw [List.getElem?_append_right (Nat.le_refl _)] at q
      simp at q; subst q
      exact ⟨a, by show (if h.length = h.length then some a else _) = _; rw [if_pos rfl], f.F, f.P, k.le l rfl⟩
  · have q1 : (if r = h.length then some a else w.φ r) = some b := q
    have q2 : (if r' = h.length then some a else w.φ r') = some b := q'
    split at q1
    · cases q1
      split at q2
      · rename_i e1 e2; exact e1.trans e2.symm
      · exact absurd q2 (f.φ r')
    · split at q2
      · cases q2; exact absurd q1 (f.φ r)
      · exact s.inj r r' b q1 q2
  · have q1 : (if r = h.length then some a else w.φ r) = some b := q
    split at q1
    · rename_i e; subst e; cases q1
      exact ⟨by simp, k.some g⟩
    · obtain ⟨x, y⟩ := s.dom r b q1
      exact ⟨by simp; omega, y⟩
  · obtain ⟨o', eo⟩ := k.some g
    have ne := s.tab.ne (a := a) fun ps z => (k.plain g eo).1 ps (Option.some.inj (eo.symm.trans z))
    refine ⟨fun P l1 => ?_, s.tab.nF, s.tab.nP⟩
    obtain ⟨e1, q1, q2, q3⟩ := s.tab.tb P l1
    refine ⟨e1, q1, q2, fun r z => ?_⟩
    have z' : (if r = h.length then some a else w.φ r) = some P := z
    split at z'
    · cases z'; exact ne _ l1 rfl
    · exact q3 r z'
  · by_cases hr : r < h.length
    · rw [List.getElem?_append_left hr] at q
      have e' : (if r = h.length then some a else w.φ r) = some b := e
      rw [if_neg (by omega)] at e'
      exact s.ng r b q e'
    · rw [List.getElem?_append_right (by omega)] at q
      cases q1 : r - h.length with
      | zero => rw [q1] at q; simp at q; exact absurd q g
      | succ j => rw [q1] at q; simp at q
theorem SR.write {r : Nat} {y : Cell} (s : SR c w h H) (q : h[r]? = some z) (g : z ≠ .gone) (e : w.φ r = some a) (k : CellOk c w (upd H a o) a y) (gy : y ≠ .gone) : SR c w (h.set r y) (upd H a o) := by
  obtain ⟨b, q1, q2, q3, q4⟩ := s.cell r z q g
  rw [e] at q1; cases q1
  refine ⟨fun b u q => ?_, fun b u q => ?_, s.pin, fun r' y' q' g' => ?_, s.inj, fun r' b q' => ?_, s.tab.upd (fun P l z => (s.tab.tb P l).2.2.2 r (z ▸ e)) o, fun r' b' q' e' => ?_⟩
  · rw [upd_ne (by rintro rfl; rw [q2] at q; cases q)]; exact s.F b u q
  · rw [upd_ne (by rintro rfl; rw [q3] at q; cases q)]; exact s.P b u q
  · rw [List.getElem?_set] at q'
    split at q'
    · rename_i hr; subst hr
      split at q'
      · cases q'; exact ⟨a, e, q2, q3, k⟩
      · cases q'
    · rename_i hr
      obtain ⟨b, p1, p2, p3, p4⟩ := s.cell r' y' q' g'
      exact ⟨b, p1, p2, p3, p4.le (.refl w) (upd_ne (by rintro rfl; exact hr (s.inj r r' _ e p1)))⟩
  · obtain ⟨x, u, y⟩ := s.dom r' b q'
    refine ⟨by simpa using x, ?_⟩
    by_cases hb : b = a
    · subst hb; exact ⟨o, upd_same⟩
    · exact ⟨u, by rw [upd_ne hb]; exact y⟩
  · rw [List.getElem?_set] at q'
    split at q'
    · split at q'
      · cases q'; exact absurd rfl gy
      · cases q'
    · exact s.ng r' b' q' e'
/-- an own cell freezes; u: what is then told of it -/
theorem SR.freeze {r : Nat} {u : HO} (s : SR c w h H) (q : h[r]? = some z) (g : z ≠ .gone) (e : w.φ r = some a) (eo : H a = some o) (n : plainO o) : Le w (w.fzAt a o) ∧ SR c (w.fzAt a o) (h.set r .gone) H := by
  obtain ⟨a', q1, q2, q3, q4⟩ := s.cell r z q g
  rw [e] at q1; cases q1
  have l : Le w (w.fzAt a o) := ⟨⟨fun b u k => by
    show upd w.F a o b = some u
    rw [upd_ne (ne_of_none k q2)]; exact k, fun _ _ k => k⟩, rfl⟩
  refine ⟨l, ⟨fun b u k => ?_, s.P, fun b u k => ⟨?_, (s.pin b u k).2⟩, fun r' y k gy => ?_, s.inj, fun r' b k => ?_, ?_, fun r' b k e' => ?_⟩⟩
  · by_cases hb : b = a
    · subst hb
      have k' : upd w.F b o b = some u := k
      rw [upd_same] at k'; cases k'; exact eo
    · have k' : upd w.F a o b = some u := k
      rw [upd_ne hb] at k'; exact s.F b u k'
  · show upd w.F a o b = none
    have k' : w.P b = some u := k
    rw [upd_ne (by rintro rfl; rw [q3] at k'; cases k')]; exact (s.pin b u k).1
  · rw [List.getElem?_set] at k
    split at k
    · split at k
      · cases k; exact absurd rfl gy
      · cases k
    · rename_i hr
      obtain ⟨b, p1, p2, p3, p4⟩ := s.cell r' y k gy
      refine ⟨b, p1, ?_, p3, p4.le l rfl⟩
      show upd w.F a o b = none
      rw [upd_ne (by rintro rfl; exact hr (s.inj r r' _ e p1))]; exact p2
  · obtain ⟨x, y⟩ := s.dom r' b k
    exact ⟨by simpa using x, y⟩
  · have ne := s.tab.ne (a := a) fun ps z => n.1 ps (Option.some.inj (eo.symm.trans z))
    refine ⟨fun P l1 => ?_, fun b u k => ?_, s.tab.nP⟩
    · obtain ⟨⟨ps, e1, e2, e3⟩, q1, q2, q3⟩ := s.tab.tb P l1
      refine ⟨⟨ps, e1, e2, fun pos cv k => ?_⟩, by show upd w.F a o P = none; rw [upd_ne (ne P l1)]; exact q1, q2, q3⟩
      obtain ⟨b, e4, e5⟩ := e3 pos cv k
      exact ⟨b, e4, l.F _ _ e5⟩
    · have k' : upd w.F a o b = some u := k
      by_cases hb : b = a
      · subst hb; rw [upd_same] at k'; cases k'; exact n.1
      · rw [upd_ne hb] at k'; exact s.tab.nF b u k'
  · rw [List.getElem?_set] at k
    split at k
    · rename_i hr
      subst hr
      have e2 : w.φ r = some b := e'
      rw [e] at e2; cases e2
      exact ⟨o, upd_same, n⟩
    · obtain ⟨u, q1, p⟩ := s.ng r' b k e'
      exact ⟨u, l.F _ _ q1, p⟩
/-- an own cell freezes, told anew: u stands there now -/
theorem SR.freezeAs {r : Nat} {u : HO} (s : SR c w h H) (q : h[r]? = some z) (g : z ≠ .gone) (e : w.φ r = some a) (eo : H a = some o) (n : plainO u) : Le w (w.fzAt a u) ∧ SR c (w.fzAt a u) (h.set r .gone) (upd H a u) := by
  obtain ⟨a', q1, q2, q3, q4⟩ := s.cell r z q g
  rw [e] at q1; cases q1
  have no := q4.plain g eo
  have l : Le w (w.fzAt a u) := ⟨⟨fun b v k => by
    show upd w.F a u b = some v
    rw [upd_ne (ne_of_none k q2)]; exact k, fun _ _ k => k⟩, rfl⟩
  refine ⟨l, ⟨fun b v k => ?_, fun b v k => ?_, fun b v k => ⟨?_, (s.pin b v k).2⟩, fun r' y k gy => ?_, s.inj, fun r' b k => ?_, ?_, fun r' b k e' => ?_⟩⟩
  · by_cases hb : b = a
    · subst hb
      have k' : upd w.F b u b = some v := k
      rw [upd_same] at k' ⊢; exact k'
    · have k' : upd w.F a u b = some v := k
      rw [upd_ne hb] at k' ⊢; exact s.F b v k'
  · rw [upd_ne (by rintro rfl; have k' : w.P b = some v := k; rw [q3] at k'; cases k')]; exact s.P b v k
  · show upd w.F a u b = none
    have k' : w.P b = some v := k
    rw [upd_ne (by rintro rfl; rw [q3] at k'; cases k')]; exact (s.pin b v k).1
  · rw [List.getElem?_set] at k
    split at k
    · split at k
      · cases k; exact absurd rfl gy
      · cases k
    · rename_i hr
      obtain ⟨b, p1, p2, p3, p4⟩ := s.cell r' y k gy
      have hb : b ≠ a := by rintro rfl; exact hr (s.inj r r' _ e p1)
      refine ⟨b, p1, ?_, p3, p4.le l (upd_ne hb)⟩
      show upd w.F a u b = none
      rw [upd_ne hb]; exact p2
  · obtain ⟨x, v, y⟩ := s.dom r' b k
    refine ⟨by simpa using x, ?_⟩
    by_cases hb : b = a
    · subst hb; exact ⟨u, upd_same⟩
    · exact ⟨v, by rw [upd_ne hb]; exact y⟩
  · have ne := s.tab.ne (a := a) fun ps z => no.1 ps (Option.some.inj (eo.symm.trans z))
    refine ⟨fun P l1 => ?_, fun b v k => ?_, s.tab.nP⟩
    · obtain ⟨⟨ps, e1, e2, e3⟩, q1, q2, q3⟩ := s.tab.tb P l1
      refine ⟨⟨ps, by rw [upd_ne (ne P l1)]; exact e1, e2, fun pos cv k => ?_⟩, by show upd w.F a u P = none; rw [upd_ne (ne P l1)]; exact q1, q2, q3⟩
      obtain ⟨b, e4, e5⟩ := e3 pos cv k
      exact ⟨b, e4, l.F _ _ e5⟩
    · have k' : upd w.F a u b = some v := k
      by_cases hb : b = a
      · subst hb; rw [upd_same] at k'; cases k'; exact n.1
      · rw [upd_ne hb] at k'; exact s.tab.nF b v k'
  · rw [List.getElem?_set] at k
    split at k
    · rename_i hr
      subst hr
      have e2 : w.φ r = some b := e'
      rw [e] at e2; cases e2
      exact ⟨u, upd_same, n⟩
    · obtain ⟨v, q1, p⟩ := s.ng r' b k e'
      exact ⟨v, l.F _ _ q1, p⟩
theorem SR.over (s : SR c w h H) (f : FreshAt w a) (n : ∀ ps, H a ≠ some (.tbl ps)) (o : HO) : SR c w h (upd H a o) where
  tab := s.tab.upd (s.tab.ne n) o
  ng := s.ng
  F := fun b u q => by rw [upd_ne (by rintro rfl; rw [f.F] at q; cases q)]; exact s.F b u q
  P := fun b u q => by rw [upd_ne (by rintro rfl; rw [f.P] at q; cases q)]; exact s.P b u q
  pin := s.pin
  cell := fun r z q g => by
    obtain ⟨b, q1, q2, q3, q4⟩ := s.cell r z q g
    exact ⟨b, q1, q2, q3, q4.le (.refl w) (upd_ne (by rintro rfl; exact f.φ r q1))⟩
  inj := s.inj
  dom := fun r b q => by
    obtain ⟨l, u, q1⟩ := s.dom r b q
    exact ⟨l, u, by rw [upd_ne (by rintro rfl; exact f.φ r q)]; exact q1⟩
end
def SO (X : Cx) (W : WX) (e : Expr) (m : Env → Hd → Res O) : Prop := PE X e (tP (RO (Cx.ct X)) (Cx.ct X) W m)
def mFz (m : Env → Hd → Res O) : ME := fun ρ h => (m ρ h).bind fun o h => .ok o.fz h
def ownO : O → Hd → Res D
  | .val d, h => .ok d h
  | .new z, h => .ok (.ref h.length) (h ++ [z])
def mOwn (m : Env → Hd → Res O) : ME := fun ρ h => (m ρ h).bind ownO
def mVal (m : ME) : Env → Hd → Res O := fun ρ h => (m ρ h).bind fun d h => .ok (.val d) h
section
variable {X : Cx} {W : WX} {e a b c : Expr} {m : Env → Hd → Res O} {ma mb mc : ME} {pos : Pos}
/-- a dict may be locked for good behind an expression -/
def tLockP (t : TE) : TE := fun σ H Q => t σ H fun v H1 => Q v H1 ∨ ∃ d u, H1 d = some u ∧ Mut (some u) ∧ ∀ od, Q v (upd H1 d (.frz od u))
theorem pe_lockP {t : TE} (h : PE X e t) : PE X e (tLockP t) := ⟨fun pins s σ H Q I hw => thn (h.run pins s σ H _ I hw) fun v s1 ⟨x, H1, I1, r, q⟩ => by
  rcases q with q | ⟨d, u, hd, mu, q⟩
  · exact ⟨x, H1, I1, r, q⟩
  · obtain ⟨od, I2⟩ := I1.lock hd mu
    exact ⟨x, _, I2, r, q od⟩⟩
theorem Post.lockP {c : Ct} {w : Wd} {h : Hd} {H1 : Hp} {z : Cell} {a : Addr} {σ : L2.St} {Q : VK} (s : SR c w h H1) (f : FreshAt w a) (g : z ≠ .gone) (k : CellOk c w H1 a z)
    (p : Post (RV c) c w W σ (.ok (fzC z) h) Q) : Q (.ref a) H1 ∨ ∃ d u, H1 d = some u ∧ Mut (some u) ∧ ∀ od, Q (.ref a) (upd H1 d (.frz od u)) := by
  obtain ⟨o, eo⟩ := k.some g
  have pl := k.plain g eo
  by_cases hd : isDc z = true
  · have nt : ∀ ps, H1 a ≠ some (.tbl ps) := fun ps z => by rw [eo] at z; cases z; exact pl.1 ps rfl
    refine .inr ⟨a, o, eo, ?_, fun od => ?_⟩
    · cases z with
      | dct ks us => obtain ⟨kvs, q, _⟩ := k; rw [q] at eo; cases eo; trivial
      | dtt ks us => obtain ⟨kvs, q, _⟩ := k; rw [q] at eo; cases eo; trivial
      | _ => cases hd
    · have s1 := s.over f nt (.frz od o)
      obtain ⟨l, s'⟩ := s1.fz f upd_same (plain_frz od o)
      exact p _ _ _ l (VR_fz (od := od) k g eo l (by unfold fzO; rw [if_pos hd]; exact upd_same)) s'
  · obtain ⟨l, s'⟩ := s.fz f eo pl
    exact .inl (p _ _ _ l (VR_fz (od := ⟨.none, none, .fields #[], #[]⟩) k g eo l (by unfold fzO; rw [if_neg hd]; exact upd_same)) s')
theorem SO.fz (h : SO X W e m) : SE X W e (mFz m) := PE.imp (pe_lockP h) fun σ H Q q => by
  refine (tP.bind q).mono fun v H1 ⟨w1, ρ, h1, o, e, s, r, p⟩ => ?_
  cases o with
  | val d => exact .inl (p.ret r s)
  | new z =>
    obtain ⟨g, a, rfl, f, k⟩ := r
    exact Post.lockP s f g k p
theorem SO.own (h : SO X W e m) : SE X W e (mOwn m) := PE.imp h fun σ H Q q => by
  refine (tP.bind q).mono fun v H1 ⟨w1, ρ, h1, o, e, s, r, p⟩ => ?_
  cases o with
  | val d => exact p.ret r s
  | new z =>
    obtain ⟨g, a, rfl, f, k⟩ := r
    obtain ⟨l, s', r'⟩ := s.own f g k
    exact p _ _ _ l r' s'

/-! ## names and constants -/
def mVar (i : Nat) : ME := fun ρ h => match ρ[i]? with
  | some (some d) => .ok d h
  | _ => .bad
def mC (d : D) : ME := fun _ h => .ok d h
theorem e_var (i : Nat) {x : Str} (hN : X.N[i]? = some x := by rfl) (hv : Vis X.env.scope x := by first | exact Or.inl rfl | exact Or.inr (Or.inl rfl) | exact Or.inr (Or.inr rfl)) (hd : (x == ("__debug__" : Str)) = false := by decide)
    (hcd : (x == ("__classdict__" : Str)) = false := by decide) : SE X W (.Name x pos) (mVar i) := PE.imp (pe_var hN hv hd hcd) fun σ H Q ⟨w, ρ, h, e, s, p⟩ => by
  unfold mVar at p
  split at p
  · rename_i d q
    obtain ⟨v, q1, r⟩ := e.2 i d q
    exact ⟨v, q1, p.ret r s⟩
  · exact p.elim
theorem e_C {e : Expr} {v : V} {d : D} (h : PE X e (tC v)) (r : ∀ w, VR (Cx.ct X) w d v) : SE X W e (mC d) := PE.imp h fun σ H Q ⟨w, ρ, hd, e, s, p⟩ => p.ret (r w) s
theorem e_int {i j} : SE X W (.Constant (.int i) j pos) (mC (.int i)) := e_C pe_int fun w => by simp only [VR]
theorem e_bl {i j} : SE X W (.Constant (.bool i) j pos) (mC (.bl i)) := e_C pe_bl fun w => by simp only [VR]
theorem e_non {j} : SE X W (.Constant .none j pos) (mC .non) := e_C pe_non fun w => by simp only [VR]
theorem e_str {i j} : SE X W (.Constant (.str i) j pos) (mC (.str i)) := e_C pe_str fun w => by simp only [VR]
/-- a module's constant -/
theorem e_glob {x : Str} {v : V} {u : Value} {d : D} (hm : X.mg x = some u) (r : RelV v u) (rv : ∀ w, VR (Cx.ct X) w d v) (hg : Gl X x := by rfl) (hd : (x == ("__debug__" : Str)) = false := by decide) : SE X W (.Name x pos) (mC d) := e_C (pe_glob hg hm r hd) rv

/-! ## operators -/
def OpS (c : Ct) (r : R2) (f : D → D → Hd → Res O) : Prop := ∀ {w : Wd} {W : WX} {σ : L2.St} {h : Hd} {H : Hp} {x y : V} {dx dy : D} {Q : VK}, SR c w h H → VR c w dx x → VR c w dy y → Post (RO c) c w W σ (f dx dy h) Q → r x y H Q
def mBin (f : D → D → Hd → Res O) (ma mb : ME) : Env → Hd → Res O := fun ρ h => (ma ρ h).bind fun x h => (mb ρ h).bind fun y h => f x y h
theorem bin_rd {ct : Ct} {r : R2} {f : D → D → Hd → Res O} (hs : OpS ct r f) {σ : L2.St} {H : Hp} {Q : VK} (q : tP (RO ct) ct W (mBin f ma mb) σ H Q) : tOp r (tE ct W ma) (tE ct W mb) σ H Q := by
  refine (tP.bind q).mono fun v H1 ⟨w1, ρ, h1, d, e1, s1, r1, p1⟩ => ?_
  refine ⟨w1, ρ, h1, e1, s1, (Post.bind p1).mono fun u H2 ⟨w2, h2, d2, l2, r2, s2, p2⟩ => ?_⟩
  exact hs s2 (r1.le l2) r2 p2
theorem e_bin {op : Operator} {r : R2} {f : D → D → Hd → Res O} (ho : OpR X (binaryOp op) r) (hs : OpS (Cx.ct X) r f) (ha : SE X W a ma) (hb : SE X W b mb) : SO X W (.BinOp a op b pos) (mBin f ma mb) :=
  PE.imp (pe_op ho ha hb) fun σ H Q q => bin_rd hs q
def OpB (c : Ct) (r : R2) (f : D → D → Hd → Res Bool) : Prop := ∀ {w : Wd} {W : WX} {σ : L2.St} {h : Hd} {H : Hp} {x y : V} {dx dy : D} {Q : Bool → Hp → Prop}, SR c w h H → VR c w dx x → VR c w dy y → Post RB c w W σ (f dx dy h) Q → r x y H fun v H' => ∃ b, v = .bl b ∧ Q b H'
def mCmp (f : D → D → Hd → Res Bool) (ma mb : ME) : MT := fun ρ h => (ma ρ h).bind fun x h => (mb ρ h).bind fun y h => f x y h
def mB (m : MT) : ME := fun ρ h => (m ρ h).bind fun b h => .ok (.bl b) h
theorem e_cmp {op : CmpOp} {r : R2} {f : D → D → Hd → Res Bool} (mono : ∀ x y H (Q Q' : VK), (∀ v H, Q v H → Q' v H) → r x y H Q → r x y H Q') (ho : OpR X (compareOp op) r) (hs : OpB (Cx.ct X) r f) (ha : SE X W a ma) (hb : SE X W b mb) (hm : behindInMarks op b = false) : SE X W (.Compare a [op] [b] pos) (mB (mCmp f ma mb)) :=
  PE.imp (pe_cmpR ho ha hb hm) fun σ H Q q => by
    obtain ⟨w, ρ, hd, e, s, p⟩ := q
    refine ⟨w, ρ, hd, e, s, ?_⟩
    have p' : Post RB (Cx.ct X) w W σ (mCmp f ma mb ρ hd) (fun b H1 => Q (.bl b) H1) := (Post.bind (R := RB) p).mono fun b H1 ⟨w1, h1, d, l, r, s1, p1⟩ => by
      cases r; exact p1.ret (by simp only [VR]) s1
    refine (Post.bind p').mono fun v H1 ⟨w1, h1, d, l1, r1, s1, p1⟩ => ?_
    refine ⟨w1, ρ, h1, e.le l1, s1, (Post.bind p1).mono fun u H2 ⟨w2, h2, d2, l2, r2, s2, p2⟩ => ?_⟩
    refine mono _ _ _ _ _ (fun v H ⟨b, e, q⟩ => by subst e; exact q) (hs s2 (r1.le l2) r2 p2)
theorem t_cmp {op : CmpOp} {r : R2} {f : D → D → Hd → Res Bool} (ho : OpR X (compareOp op) r) (hs : OpB (Cx.ct X) r f) (ha : SE X W a ma) (hb : SE X W b mb) (hm : behindInMarks op b = false) : ST X W (.Compare a [op] [b] pos) (mCmp f ma mb) :=
  PT.imp (pt_cmpR ho ha hb hm) fun σ H Q q => by
    refine (tP.bind q).mono fun v H1 ⟨w1, ρ, h1, d, e1, s1, r1, p1⟩ => ?_
    refine ⟨w1, ρ, h1, e1, s1, (Post.bind p1).mono fun u H2 ⟨w2, h2, d2, l2, r2, s2, p2⟩ => ?_⟩
    exact hs s2 (r1.le l2) r2 p2
end
end DD
set_option Elab.async false
set_option linter.all false
set_option maxRecDepth 100000
set_option maxHeartbeats 4000000
namespace DD
open PySem PySem.Spec L2

/-! ## tests -/
def lstOf (h : Hd) : D → Option (List D)
  | .lst xs => some xs
  | .ref r => match h[r]? with
    | some (.lst xs) => some xs
    | _ => none
  | _ => none
def seqOf (h : Hd) : D → Option (List D)
  | .tup xs => some xs
  | .rol xs => some xs
  | .ktp xs => some xs
  | d => lstOf h d
def truthD (h : Hd) : D → Option Bool
  | .non => some false
  | .bl b => some b
  | .int i => some (i != 0)
  | .str s => if s.length ≤ sizeLine then some ((s.length : Int) != 0) else none
  | .tup xs => some (!xs.isEmpty)
  | .rol xs => some (!xs.isEmpty)
  | .lst xs => some (!xs.isEmpty)
  | .ref r => match h[r]? with
    | some (.lst xs) => some (!xs.isEmpty)
    | _ => none
  | _ => none
def optR {α : Type} (o : Option α) (h : Hd) : Res α := match o with
  | some a => .ok a h
  | none => .bad
section
variable {c : Ct} {w : Wd} {h : Hd} {H : Hp} {d : D} {v : V} {xs : List D}
theorem lstOf_ok (s : SR c w h H) (r : VR c w d v) (e : lstOf h d = some xs) : ∃ a vs, v = .ref a ∧ H a = some (.lst vs) ∧ VRs c w xs vs := by
  cases d with
  | lst ys =>
    simp only [lstOf, Option.some.injEq] at e; subst e
    simp only [VR] at r
    obtain ⟨a, vs, e1, q, z⟩ := r
    exact ⟨a, vs, e1, s.F _ _ q, z⟩
  | ref r' =>
    simp only [lstOf] at e
    split at e
    · rename_i ys q
      cases e
      simp only [VR] at r
      obtain ⟨a, rfl, f⟩ := r
      obtain ⟨b, q1, _, _, q4⟩ := s.cell r' _ q (by intro z; cases z)
      rw [f] at q1; cases q1
      obtain ⟨vs, z1, z2⟩ := q4
      exact ⟨a, vs, rfl, z1, z2⟩
    · cases e
  | _ => simp [lstOf] at e
theorem seqOf_ok (s : SR c w h H) (r : VR c w d v) (e : seqOf h d = some xs) : ∃ a vs, v = .ref a ∧ (SqL c.K H a vs ∨ SqT c.K H a vs) ∧ VRs c w xs vs := by
  cases d with
  | tup ys =>
    simp only [seqOf, Option.some.injEq] at e; subst e
    simp only [VR] at r
    obtain ⟨a, vs, e1, q, z⟩ := r
    exact ⟨a, vs, e1, .inr (SqT_le s.F q), z⟩
  | ktp ys =>
    simp only [seqOf, Option.some.injEq] at e; subst e
    simp only [VR] at r
    obtain ⟨a, vs, e1, q, z⟩ := r
    exact ⟨a, vs, e1, .inr q.sq, z⟩
  | rol ys =>
    simp only [seqOf, Option.some.injEq] at e; subst e
    simp only [VR] at r
    obtain ⟨a, vs, e1, q, z⟩ := r
    exact ⟨a, vs, e1, .inl (SqL_le s.F q), z⟩
  | lst ys =>
    obtain ⟨a, vs, e1, q, z⟩ := lstOf_ok s r (show lstOf h (.lst ys) = some xs from e)
    exact ⟨a, vs, e1, .inl (SqL.of q), z⟩
  | ref ys =>
    obtain ⟨a, vs, e1, q, z⟩ := lstOf_ok s r (show lstOf h (.ref ys) = some xs from e)
    exact ⟨a, vs, e1, .inl (SqL.of q), z⟩
  | _ => simp [seqOf, lstOf] at e
theorem VRs.isEmpty {vs : List V} (r : VRs c w xs vs) : xs.isEmpty = vs.isEmpty := by
  have := r.len
  cases xs <;> cases vs <;> simp_all
theorem truthD_ok {b : Bool} (s : SR c w h H) (r : VR c w d v) (e : truthD h d = some b) : TruV c.K v H b := by
  cases d with
  | non => simp only [VR] at r; subst r; simp only [truthD, Option.some.injEq] at e; exact e.symm
  | bl k => simp only [VR] at r; subst r; simp only [truthD, Option.some.injEq] at e; exact e.symm
  | int k => simp only [VR] at r; subst r; simp only [truthD, Option.some.injEq] at e; exact e.symm
  | str k =>
    simp only [VR] at r; subst r
    simp only [truthD] at e
    split at e
    · rename_i z; cases e; exact ⟨z, rfl⟩
    · cases e
  | tup ys =>
    simp only [truthD, Option.some.injEq] at e
    simp only [VR] at r
    obtain ⟨a, vs, rfl, q, z⟩ := r
    exact .inr (.inl ⟨vs, SqT_le s.F q, by rw [← z.isEmpty, e]⟩)
  | rol ys =>
    simp only [truthD, Option.some.injEq] at e
    simp only [VR] at r
    obtain ⟨a, vs, rfl, q, z⟩ := r
    exact .inl ⟨vs, SqL_le s.F q, by rw [← z.isEmpty, e]⟩
  | lst ys =>
    simp only [truthD, Option.some.injEq] at e
    simp only [VR] at r
    obtain ⟨a, vs, rfl, q, z⟩ := r
    exact .inl ⟨vs, SqL.of (s.F _ _ q), by rw [← z.isEmpty, e]⟩
  | ref r' =>
    simp only [truthD] at e
    split at e
    · rename_i ys q
      obtain ⟨a, vs, rfl, q1, z⟩ := lstOf_ok (xs := ys) s r (by simp only [lstOf, q])
      simp only [Option.some.injEq] at e
      exact .inl ⟨vs, SqL.of q1, by rw [← z.isEmpty, e]⟩
    · cases e
  | _ => simp [truthD] at e
end
def mTru (m : ME) : MT := fun ρ h => (m ρ h).bind fun d h => optR (truthD h d) h
def mNot (m : MT) : MT := fun ρ h => (m ρ h).bind fun b h => .ok (!b) h
def mAnd (m k : MT) : MT := fun ρ h => (m ρ h).bind fun b h => if b then k ρ h else .ok false h
def mOr (m k : MT) : MT := fun ρ h => (m ρ h).bind fun b h => if b then .ok true h else k ρ h
def mIf (t : MT) (a b : ME) : ME := fun ρ h => (t ρ h).bind fun k h => if k then a ρ h else b ρ h
def toB : D → Hd → Res Bool
  | .bl b, h => .ok b h
  | _, _ => .bad
def mBl (m : ME) : MT := fun ρ h => (m ρ h).bind toB
section
variable {X : Cx} {W : WX} {e a b : Expr} {rest : List Expr} {ma mb : ME} {ta tb : MT} {pos : Pos}
theorem optR_post {α β : Type} {R : Wd → Hp → α → β → Prop} {c : Ct} {w : Wd} {σ : L2.St} {o : Option α} {h : Hd} {Q : β → Hp → Prop} (p : Post R c w W σ (optR o h) Q) : ∃ a, o = some a ∧ Post R c w W σ (.ok a h) Q := by
  cases o with
  | none => exact p.elim
  | some a => exact ⟨a, rfl, p⟩
/-- a test by its truth -/
theorem t_tru (ha : SE X W a ma) (he : ∀ whole, isTrue a X.env whole = (do let v ← whole; standAt a.pos; holding [v] (truthy v)) := by intro _; rfl) : ST X W a (mTru ma) := PT.imp (pt_truth ha he) fun σ H Q q => by
  refine (tP.bind q).mono fun v H1 ⟨w1, ρ, h1, d, e1, s1, r1, p1⟩ => ?_
  obtain ⟨b, eb, p2⟩ := optR_post p1
  exact ⟨b, truthD_ok s1 r1 eb, p2.ret rfl s1⟩
/-- a test whose value is a bool -/
theorem t_bl (ha : SE X W a ma) (he : ∀ whole, isTrue a X.env whole = (do let v ← whole; standAt a.pos; holding [v] (truthy v)) := by intro _; rfl) : ST X W a (mBl ma) := PT.imp (pt_val ha he) fun σ H Q q => by
  refine (tP.bind q).mono fun v H1 ⟨w1, ρ, h1, d, e1, s1, r1, p1⟩ => ?_
  cases d with
  | bl b => simp only [VR] at r1; exact ⟨b, r1, p1.ret rfl s1⟩
  | _ => exact p1.elim
theorem t_not (ha : ST X W a ta) : ST X W (.UnaryOp .Not a pos) (mNot ta) := PT.imp (pt_not ha) fun σ H Q q => by
  refine (tP.bind q).mono fun v H1 ⟨w1, ρ, h1, d, e1, s1, r1, p1⟩ => ?_
  cases r1
  exact p1.ret rfl s1
theorem w_and1 (ha : ST X W a ta) : SW X W (.BoolOp .And [a] pos) ta := pw_and1 ha
theorem w_or1 (ha : ST X W a ta) : SW X W (.BoolOp .Or [a] pos) ta := pw_or1 ha
theorem and_rd {ct : Ct} {σ : L2.St} {H : Hp} {Q : Bool → Hp → Prop} (q : tT ct W (mAnd ta tb) σ H Q) : tAnd (tT ct W ta) (tT ct W tb) σ H Q := by
  refine (tP.bind q).mono fun v H1 ⟨w1, ρ, h1, d, e1, s1, r1, p1⟩ => ?_
  cases r1
  cases v with
  | true => exact ⟨w1, ρ, h1, e1, s1, p1⟩
  | false => exact p1.ret rfl s1
theorem or_rd {ct : Ct} {σ : L2.St} {H : Hp} {Q : Bool → Hp → Prop} (q : tT ct W (mOr ta tb) σ H Q) : tOr (tT ct W ta) (tT ct W tb) σ H Q := by
  refine (tP.bind q).mono fun v H1 ⟨w1, ρ, h1, d, e1, s1, r1, p1⟩ => ?_
  cases r1
  cases v with
  | true => exact p1.ret rfl s1
  | false => exact ⟨w1, ρ, h1, e1, s1, p1⟩
theorem w_and (ha : ST X W a ta) (hb : SW X W (.BoolOp .And (b :: rest) pos) tb) : SW X W (.BoolOp .And (a :: b :: rest) pos) (mAnd ta tb) := PW.imp (pw_and ha hb) fun σ H Q q => and_rd q
theorem w_or (ha : ST X W a ta) (hb : SW X W (.BoolOp .Or (b :: rest) pos) tb) : SW X W (.BoolOp .Or (a :: b :: rest) pos) (mOr ta tb) := PW.imp (pw_or ha hb) fun σ H Q q => or_rd q
theorem t_w (h : SW X W a ta) : ST X W a ta := PW.pt h
/-- values: and, or of bools; not by truth; a choice -/
def mAndV (m k : ME) : ME := fun ρ h => (m ρ h).bind fun d h => (toB d h).bind fun b h => if b then k ρ h else .ok (.bl false) h
def mOrV (m k : ME) : ME := fun ρ h => (m ρ h).bind fun d h => (toB d h).bind fun b h => if b then .ok (.bl true) h else k ρ h
def mNotV (m : ME) : ME := fun ρ h => (m ρ h).bind fun d h => (optR (truthD h d) h).bind fun b h => .ok (.bl (!b)) h
theorem e_one {op} (h : SE X W a ma) : SE X W (.BoolOp op [a] pos) ma := pe_one h
theorem e_and (ha : SE X W a ma) (hb : SE X W (.BoolOp .And (b :: rest) pos) mb) : SE X W (.BoolOp .And (a :: b :: rest) pos) (mAndV ma mb) := PE.imp (pe_and ha hb) fun σ H Q q => by
  refine (tP.bind q).mono fun v H1 ⟨w1, ρ, h1, d, e1, s1, r1, p1⟩ => ?_
  cases d with
  | bl k =>
    simp only [VR] at r1
    refine ⟨k, r1, ?_⟩
    cases k with
    | true => exact ⟨w1, ρ, h1, e1, s1, p1⟩
    | false => exact p1.ret (by simp only [VR]) s1
  | _ => exact p1.elim
theorem e_or (ha : SE X W a ma) (hb : SE X W (.BoolOp .Or (b :: rest) pos) mb) : SE X W (.BoolOp .Or (a :: b :: rest) pos) (mOrV ma mb) := PE.imp (pe_or ha hb) fun σ H Q q => by
  refine (tP.bind q).mono fun v H1 ⟨w1, ρ, h1, d, e1, s1, r1, p1⟩ => ?_
  cases d with
  | bl k =>
    simp only [VR] at r1
    refine ⟨k, r1, ?_⟩
    cases k with
    | true => exact p1.ret (by simp only [VR]) s1
    | false => exact ⟨w1, ρ, h1, e1, s1, p1⟩
  | _ => exact p1.elim
theorem e_not (ha : SE X W a ma) : SE X W (.UnaryOp .Not a pos) (mNotV ma) := PE.imp (pe_notT ha) fun σ H Q q => by
  refine (tP.bind q).mono fun v H1 ⟨w1, ρ, h1, d, e1, s1, r1, p1⟩ => ?_
  obtain ⟨b, eb, p2⟩ := optR_post (R := RB) ((Post.bind (R := RB) p1))
  exact ⟨b, truthD_ok s1 r1 eb, by
    obtain ⟨w2, h2, b2, l2, r2, s2, p3⟩ := p2.ret rfl s1
    cases r2
    exact p3.ret (by simp only [VR]) s2⟩
theorem e_if {t : Expr} (ht : ST X W t ta) (ha : SE X W a ma) (hb : SE X W b mb) : SE X W (.IfExp t a b pos) (mIf ta ma mb) := PE.imp (pe_ifExp ht ha hb) fun σ H Q q => by
  refine (tP.bind q).mono fun v H1 ⟨w1, ρ, h1, d, e1, s1, r1, p1⟩ => ?_
  cases r1
  cases v with
  | true => exact ⟨w1, ρ, h1, e1, s1, p1⟩
  | false => exact ⟨w1, ρ, h1, e1, s1, p1⟩
end

/-! ## statements -/
inductive Fl where
  | nx (ρ : Env) (h : Hd) | rt (d : D) (h : Hd) | bk (ρ : Env) (h : Hd) | ct (ρ : Env) (h : Hd) | exc (x : Xc) (ρ : Env) (h : Hd) | bad
abbrev MS := Env → Hd → Fl
def PostS (c : Ct) (w : Wd) (W : WX) (r : Fl) (Dn : Ends) : Prop := match r with
  | .nx ρ h => ∀ σ w' H', Le w w' → ER c w' ρ σ → SR c w' h H' → Dn.nx σ H'
  | .rt d h => ∀ v w' H', Le w w' → VR c w' d v → SR c w' h H' → Dn.rt v H'
  | .bk ρ h => ∀ σ w' H', Le w w' → ER c w' ρ σ → SR c w' h H' → Dn.bk σ H'
  | .ct ρ h => ∀ σ w' H', Le w w' → ER c w' ρ σ → SR c w' h H' → Dn.ct σ H'
  | .exc x ρ h => ∀ cls dx σ w' H', Le w w' → ER c w' ρ σ → SR c w' h H' → XR c w' x cls dx H' → W cls dx σ H'
  | .bad => False
theorem PostS.le {c : Ct} {w w' : Wd} {W : WX} {r : Fl} {Dn : Ends} (l : Le w w') (h : PostS c w W r Dn) : PostS c w' W r Dn := by
  cases r with
  | nx ρ hd => exact fun σ w2 H2 l2 => h σ w2 H2 (l.trans l2)
  | rt d hd => exact fun v w2 H2 l2 => h v w2 H2 (l.trans l2)
  | bk ρ hd => exact fun σ w2 H2 l2 => h σ w2 H2 (l.trans l2)
  | ct ρ hd => exact fun σ w2 H2 l2 => h σ w2 H2 (l.trans l2)
  | exc x ρ hd => exact fun cls dx σ w2 H2 l2 => h cls dx σ w2 H2 (l.trans l2)
  | bad => exact h
def tS (c : Ct) (W : WX) (m : MS) : TS := fun Dn σ H => ∃ w ρ h, ER c w ρ σ ∧ SR c w h H ∧ PostS c w W (m ρ h) Dn
def SS (X : Cx) (W : WX) (st : Stmt) (m : MS) : Prop := PS X st (tS (Cx.ct X) W m)
def SSs (X : Cx) (W : WX) (st : List Stmt) (m : MS) : Prop := PSs X st (tS (Cx.ct X) W m)
def liftR {α : Type} (m : Env → Hd → Res α) (k : α → Env → Hd → Fl) : MS := fun ρ h => match m ρ h with
  | .ok d h => k d ρ h
  | .exc x h => .exc x ρ h
  | .bad => .bad
theorem tS.lift {α β : Type} {R : Wd → Hp → α → β → Prop} {c : Ct} {W : WX} {m : Env → Hd → Res α} {k : α → Env → Hd → Fl} {Dn : Ends} {σ : L2.St} {H : Hp} (q : tS c W (liftR m k) Dn σ H) :
    tP R c W m σ H (fun v H1 => ∃ w1 ρ h1 d, ER c w1 ρ σ ∧ SR c w1 h1 H1 ∧ R w1 H1 d v ∧ PostS c w1 W (k d ρ h1) Dn) := by
  obtain ⟨w, ρ, h, e, s, p⟩ := q
  refine ⟨w, ρ, h, e, s, ?_⟩
  unfold liftR at p
  cases q : m ρ h with
  | ok d h1 => rw [q] at p; exact fun v w1 H1 l r s1 => ⟨w1, ρ, h1, d, e.le l, s1, r, PostS.le l p⟩
  | exc x h1 => rw [q] at p; exact fun cls dx w1 H1 l s1 x1 => p cls dx σ w1 H1 l (e.le l) s1 x1
  | bad => rw [q] at p; exact p
theorem PostS.nx {c : Ct} {w : Wd} {W : WX} {ρ : Env} {h : Hd} {Dn : Ends} {σ : L2.St} {H : Hp} (p : PostS c w W (.nx ρ h) Dn) (e : ER c w ρ σ) (s : SR c w h H) : Dn.nx σ H := p σ w H (.refl w) e s
theorem PostS.rt {c : Ct} {w : Wd} {W : WX} {d : D} {h : Hd} {Dn : Ends} {v : V} {H : Hp} (p : PostS c w W (.rt d h) Dn) (e : VR c w d v) (s : SR c w h H) : Dn.rt v H := p v w H (.refl w) e s
def mNil : MS := fun ρ h => .nx ρ h
def mSeq (a b : MS) : MS := fun ρ h => match a ρ h with
  | .nx ρ h => b ρ h
  | r => r
def mIfS (t : MT) (a b : MS) : MS := liftR t fun k ρ h => if k then a ρ h else b ρ h
def mRet (m : ME) : MS := liftR m fun d _ h => .rt d h
def mRetN : MS := fun _ h => .rt .non h
def mExpr (m : ME) : MS := liftR m fun _ ρ h => .nx ρ h
def mSet (i : Nat) (m : ME) : MS := liftR m fun d ρ h => .nx (ρ.set i (some d)) h
section
variable {X : Cx} {W : WX} {e a b : Expr} {st : Stmt} {rest body orelse : List Stmt} {ma mb : ME} {ta tb : MT} {sa sb : MS} {pos : Pos}
theorem s_nil : SSs X W [] mNil := PSs.imp pss_nil fun Dn σ H ⟨w, ρ, h, e, s, p⟩ => p.nx e s
theorem s_cons (h1 : SS X W st sa) (h2 : SSs X W rest sb) : SSs X W (st :: rest) (mSeq sa sb) := PSs.imp (pss_cons h1 h2) fun Dn σ H ⟨w, ρ, h, e, s, p⟩ => by
  refine ⟨w, ρ, h, e, s, ?_⟩
  unfold mSeq at p
  cases q : sa ρ h with
  | nx ρ1 h1 => rw [q] at p; exact fun σ1 w1 H1 l e1 s1 => ⟨w1, ρ1, h1, e1, s1, PostS.le l p⟩
  | rt d h1 => rw [q] at p; exact p
  | bk ρ1 h1 => rw [q] at p; exact p
  | ct ρ1 h1 => rw [q] at p; exact p
  | exc x ρ1 h1 => rw [q] at p; exact p
  | bad => rw [q] at p; exact p
theorem s_one (h1 : SS X W st sa) : SSs X W [st] sa := pss_one h1
theorem s_pass : SS X W (.Pass pos) mNil := PS.imp ps_pass fun Dn σ H ⟨w, ρ, h, e, s, p⟩ => p.nx e s
theorem s_doc {x j pos'} : SS X W (.Expr (.Constant (.str x) j pos') pos) mNil := PS.imp ps_doc fun Dn σ H ⟨w, ρ, h, e, s, p⟩ => p.nx e s
theorem s_ret (ha : SE X W a ma) : SS X W (.Return (some a) pos) (mRet ma) := PS.imp (ps_ret ha) fun Dn σ H q => by
  refine (tS.lift q).mono fun v H1 ⟨w1, ρ, h1, d, e1, s1, r1, p1⟩ => ?_
  exact p1.rt r1 s1
theorem s_retN : SS X W (.Return none pos) mRetN := PS.imp ps_retN fun Dn σ H ⟨w, ρ, h, e, s, p⟩ => p.rt (by simp only [VR]) s
theorem s_expr (ha : SE X W a ma) (hs : swapsWith a none pos.line X.env = pure false := by rfl) : SS X W (.Expr a pos) (mExpr ma) := PS.imp (ps_expr ha hs) fun Dn σ H q => by
  refine (tS.lift q).mono fun v H1 ⟨w1, ρ, h1, d, e1, s1, r1, p1⟩ => ?_
  exact p1.nx e1 s1
theorem s_if (ht : ST X W a ta) (h1 : SSs X W body sa) (h2 : SSs X W orelse sb) : SS X W (.If a body orelse pos) (mIfS ta sa sb) := PS.imp (ps_if ht h1 h2) fun Dn σ H q => by
  refine (tS.lift q).mono fun v H1 ⟨w1, ρ, h1, d, e1, s1, r1, p1⟩ => ?_
  cases r1
  cases v with
  | true => exact ⟨w1, ρ, h1, e1, s1, p1⟩
  | false => exact ⟨w1, ρ, h1, e1, s1, p1⟩
theorem s_set (i : Nat) {x : Str} {pos' : Pos} (ha : SE X W a ma) (hN : X.N.Nodup) (hi : X.N[i]? = some x := by rfl) (hx : Loc X.env.scope x := by first | exact Or.inl rfl | exact Or.inr rfl) (hs : swapsWith a (some (.Name x pos')) pos.line X.env = pure false := by rfl)
    (hf : X.fn x = true ∨ X.env.scope.names.lookup x = some .local := by first | exact .inl rfl | exact .inr rfl | assumption) : SS X W (.Assign [.Name x pos'] a pos) (mSet i ma) := PS.imp (ps_set hN hi hx ha hs hf) fun Dn σ H q => by
  refine (tS.lift q).mono fun v H1 ⟨w1, ρ, h1, d, e1, s1, r1, p1⟩ => ?_
  exact p1.nx (e1.set i r1) s1

/-! ### targets -/
def Eqx (ix : List Nat) (σ σ' : L2.St) : Prop := σ'.length = σ.length ∧ ∀ i, i ∉ ix → σ'[i]? = σ[i]?
theorem Eqx.refl {ix : List Nat} {σ : L2.St} : Eqx ix σ σ := ⟨rfl, fun _ _ => rfl⟩
theorem Eqx.trans {ix : List Nat} {σ σ1 σ2 : L2.St} (a : Eqx ix σ σ1) (b : Eqx ix σ1 σ2) : Eqx ix σ σ2 := ⟨b.1.trans a.1, fun i h => (b.2 i h).trans (a.2 i h)⟩
theorem Eqx.mono {ix ix' : List Nat} {σ σ1 : L2.St} (a : Eqx ix σ σ1) (h : ∀ i ∈ ix, i ∈ ix') : Eqx ix' σ σ1 := ⟨a.1, fun i q => a.2 i fun z => q (h i z)⟩
theorem wipe_at {σ : L2.St} : ∀ {vs : List Nat} {i : Nat}, i ∈ vs → (wipe σ vs)[i]? = if i < σ.length then some none else none
  | [], i, h => by cases h
  | v :: vs, i, h => by
    show ((wipe σ vs).set v none)[i]? = _
    rw [List.getElem?_set, wipe_length]
    by_cases e : v = i
    · rw [if_pos e, e]
    · rw [if_neg e]
      exact wipe_at ((List.mem_cons.mp h).resolve_left fun z => e z.symm)
theorem Eqx.wipe {ix : List Nat} {σ σ1 : L2.St} (a : Eqx ix σ σ1) : L2.wipe σ1 ix = L2.wipe σ ix := by
  apply List.ext_getElem?
  intro i
  by_cases h : i ∈ ix
  · rw [wipe_at h, wipe_at h, a.1]
  · rw [wipe_out h, wipe_out h, a.2 i h]
abbrev MG := D → Env → Hd → Res Env
def PostG (c : Ct) (w : Wd) (W : WX) (ix : List Nat) (σ : L2.St) (r : Res Env) (Q : L2.St → Hp → Prop) : Prop := match r with
  | .ok ρ h => ∀ σ' w' H', Le w w' → ER c w' ρ σ' → SR c w' h H' → Eqx ix σ σ' → Q σ' H'
  | .exc x h => ∀ cls dx w' H', Le w w' → SR c w' h H' → XR c w' x cls dx H' → W cls dx σ H'
  | .bad => False
theorem PostG.le {c : Ct} {w w' : Wd} {W : WX} {ix : List Nat} {σ : L2.St} {r : Res Env} {Q : L2.St → Hp → Prop} (l : Le w w') (h : PostG c w W ix σ r Q) : PostG c w' W ix σ r Q := by
  cases r with
  | ok ρ hd => exact fun σ' w2 H2 l2 => h σ' w2 H2 (l.trans l2)
  | exc x hd => exact fun cls dx w2 H2 l2 => h cls dx w2 H2 (l.trans l2)
  | bad => exact h
def tG (c : Ct) (W : WX) (ix : List Nat) (m : MG) : TG := fun v σ H Q => ∃ w ρ h d, ER c w ρ σ ∧ SR c w h H ∧ VR c w d v ∧ PostG c w W ix σ (m d ρ h) Q
def SG (X : Cx) (W : WX) (ix : List Nat) (tg : Expr) (m : MG) : Prop := PG X tg (tG (Cx.ct X) W ix m)
theorem PG.imp {X : Cx} {e : Expr} {t t' : TG} (h : PG X e t) (i : ∀ v σ H Q, t' v σ H Q → t v σ H Q) : PG X e t' := ⟨fun pins s σ H v u Q I r q => h.run pins s σ H v u Q I r (i _ _ _ _ q)⟩
theorem PGs.imp {X : Cx} {e : List Expr} {t t' : TGs} (h : PGs X e t) (i : ∀ v σ H Q, t' v σ H Q → t v σ H Q) : PGs X e t' := ⟨fun pins s σ H v u Q I r q => h.run pins s σ H v u Q I r (i _ _ _ _ q)⟩
def gSet (i : Nat) : MG := fun d ρ h => .ok (ρ.set i (some d)) h
theorem g_name (i : Nat) {x : Str} (hN : X.N.Nodup) (hi : X.N[i]? = some x := by rfl) (hx : Loc X.env.scope x := by first | exact Or.inl rfl | exact Or.inr rfl) (hf : X.fn x = true ∨ X.env.scope.names.lookup x = some .local := by first | exact .inl rfl | exact .inr rfl | assumption) :
    SG X W [i] (.Name x pos) (gSet i) := PG.imp (pg_name hN hi hx hf) fun v σ H Q ⟨w, ρ, h, d, e, s, r, p⟩ => by
  refine p _ w H (.refl w) (e.set i r) s ⟨by simp, fun j hj => ?_⟩
  rw [List.getElem?_set_ne (by simp at hj; omega)]
abbrev MGs := List D → Env → Hd → Res Env
def tGs (c : Ct) (W : WX) (ix : List Nat) (m : MGs) : TGs := fun vs σ H Q => ∃ w ρ h ds, ER c w ρ σ ∧ SR c w h H ∧ VRs c w ds vs ∧ PostG c w W ix σ (m ds ρ h) Q
def GNX (m : MG) : Prop := ∀ d ρ h x h', m d ρ h ≠ .exc x h'
structure SGs (X : Cx) (W : WX) (ix : List Nat) (tg : List Expr) (m : MGs) : Prop where
  g : PGs X tg (tGs (Cx.ct X) W ix m)
  n : ∀ ds ρ h x h', m ds ρ h ≠ .exc x h'
structure SGn (X : Cx) (W : WX) (ix : List Nat) (tg : Expr) (m : MG) : Prop where
  g : SG X W ix tg m
  n : GNX m
def gsNil : MGs := fun ds ρ h => match ds with
  | [] => .ok ρ h
  | _ => .bad
def gsCons (g : MG) (gs : MGs) : MGs := fun ds ρ h => match ds with
  | d :: r => (g d ρ h).bind fun ρ h => gs r ρ h
  | [] => .bad
theorem gs_nil : SGs X W [] [] gsNil := by
  refine ⟨PGs.imp pgs_nil fun vs σ H Q ⟨w, ρ, h, ds, e, s, r, p⟩ => ?_, fun ds ρ h x h' q => by cases ds <;> cases q⟩
  cases ds with
  | nil => simp only [VRs] at r; exact ⟨r, p _ w H (.refl w) e s .refl⟩
  | cons _ _ => exact p.elim
theorem gn_name (i : Nat) {x : Str} (hN : X.N.Nodup) (hi : X.N[i]? = some x := by rfl) (hx : Loc X.env.scope x := by first | exact Or.inl rfl | exact Or.inr rfl) (hf : X.fn x = true ∨ X.env.scope.names.lookup x = some .local := by first | exact .inl rfl | exact .inr rfl | assumption) :
    SGn X W [i] (.Name x pos) (gSet i) := ⟨g_name i hN hi hx hf, fun d ρ h x h' q => by cases q⟩
theorem gs_cons {tg : Expr} {tgs : List Expr} {ix jx : List Nat} {g : MG} {gs : MGs} (h1 : SGn X W ix tg g) (h2 : SGs X W jx tgs gs)
    (hs : (assignEach (tg :: tgs) X.env).map (·.2) = assign tg X.env :: (assignEach tgs X.env).map (·.2) := by rfl) : SGs X W (ix ++ jx) (tg :: tgs) (gsCons g gs) := by
  have hr := h1.n
  have hr2 := h2.n
  refine ⟨PGs.imp (pgs_cons h1.g h2.g hs) fun vs σ H Q ⟨w, ρ, h, ds, e, s, r, p⟩ => ?_, fun ds ρ h x h' q => ?_⟩
  rotate_left
  · cases ds with
    | nil => cases q
    | cons d ds =>
      have q' : ((g d ρ h).bind fun ρ h => gs ds ρ h) = .exc x h' := q
      cases e : g d ρ h with
      | ok ρ1 h1 => rw [e] at q'; exact hr2 _ _ _ _ _ q'
      | exc x h1 => exact hr _ _ _ _ _ e
      | bad => rw [e] at q'; cases q'
  cases ds with
  | nil => exact p.elim
  | cons d ds =>
    simp only [VRs] at r
    obtain ⟨v, us, rfl, r1, r2⟩ := r
    refine ⟨v, us, rfl, w, ρ, h, d, e, s, r1, ?_⟩
    have p' : PostG (Cx.ct X) w W (ix ++ jx) σ ((g d ρ h).bind fun ρ h => gs ds ρ h) Q := p
    cases q : g d ρ h with
    | ok ρ1 h1 =>
      rw [q] at p'
      refine fun σ1 w1 H1 l1 e1 s1 x1 => ⟨w1, ρ1, h1, ds, e1, s1, r2.le l1, ?_⟩
      have p2 : PostG (Cx.ct X) w W (ix ++ jx) σ (gs ds ρ1 h1) Q := p'
      cases q2 : gs ds ρ1 h1 with
      | ok ρ2 h2 =>
        rw [q2] at p2
        exact fun σ2 w2 H2 l2 e2 s2 x2 => p2 σ2 w2 H2 (l1.trans l2) e2 s2 ((x1.mono fun i z => List.mem_append_left _ z).trans (x2.mono fun i z => List.mem_append_right _ z))
      | exc x h2 => exact absurd q2 (hr2 _ _ _ _ _)
      | bad => rw [q2] at p2; exact p2
    | exc x h1 => exact absurd q (hr _ _ _ _ _)
    | bad => rw [q] at p'; exact p'
def gTupM (n : Nat) (gs : MGs) : MG := fun d ρ h => match d with
  | .tup xs => if xs.length = n then gs xs ρ h else .bad
  | _ => .bad
theorem g_tup {es : List Expr} {k : Nat} {n : Nat} {ix : List Nat} {gs : MGs} (hc : X.calm = true) (h : SGs X W ix es gs) (hn : (assignEach es X.env).length = n := by rfl) (hst : (assignEach es X.env).findIdx? (·.1) = none := by rfl) : SG X W ix (.Tuple es k pos) (gTupM n gs) :=
  PG.imp (pg_tup hc h.g hn hst) fun v σ H Q ⟨w, ρ, h, d, e, s, r, p⟩ => by
  cases d with
  | tup xs =>
    have p' : PostG (Cx.ct X) w W ix σ (if xs.length = n then gs xs ρ h else .bad) Q := p
    split at p'
    · rename_i hl
      simp only [VR] at r
      obtain ⟨a, vs, rfl, q, z⟩ := r
      exact ⟨a, vs, rfl, SqT_le s.F q, by rw [← z.len, hl], w, ρ, h, xs, e, s, z, p'⟩
    · exact p'.elim
  | _ => exact p.elim
theorem gn_tup {es : List Expr} {k : Nat} {n : Nat} {ix : List Nat} {gs : MGs} (hc : X.calm = true) (h : SGs X W ix es gs) (hn : (assignEach es X.env).length = n := by rfl) (hst : (assignEach es X.env).findIdx? (·.1) = none := by rfl) : SGn X W ix (.Tuple es k pos) (gTupM n gs) :=
  ⟨g_tup hc h hn hst, fun d ρ h' x h2 q => by
    cases d with
    | tup xs =>
      have q' : (if xs.length = n then gs xs ρ h' else .bad) = .exc x h2 := q
      split at q'
      · exact h.n _ _ _ _ _ q'
      · cases q'
    | _ => cases q⟩
def mAsg (m : ME) (g : MG) : MS := liftR m fun d ρ h => match g d ρ h with
  | .ok ρ h => .nx ρ h
  | .exc x h => .exc x ρ h
  | .bad => .bad
theorem asg_rd {ct : Ct} {ix : List Nat} {g : MG} {Dn : Ends} {σ : L2.St} {H : Hp} (q : tS ct W (mAsg ma g) Dn σ H) : tAsg (tE ct W ma) (tG ct W ix g) Dn σ H := by
  refine (tS.lift q).mono fun v H1 ⟨w1, ρ, h1, d, e1, s1, r1, p1⟩ => ⟨w1, ρ, h1, d, e1, s1, r1, ?_⟩
  cases q : g d ρ h1 with
  | ok ρ2 h2 => rw [q] at p1; exact fun σ' w' H' l e s _ => p1 σ' w' H' l e s
  | exc x h2 => rw [q] at p1; exact fun cls dx w' H' l s x => p1 cls dx σ w' H' l (e1.le l) s x
  | bad => rw [q] at p1; exact p1
theorem s_asg {tg : Expr} {ix : List Nat} {g : MG} (ha : SE X W a ma) (hg : SG X W ix tg g) (hs : swapsWithSole [tg] a pos.line X.env = pure false := by rfl) (hw : swappedStores [tg] a X.env = pure none := by rfl)
    (h1 : (assignEach [tg] X.env).map (·.2) = [assign tg X.env] := by rfl) : SS X W (.Assign [tg] a pos) (mAsg ma g) := PS.imp (ps_asg ha hg hs hw h1) fun Dn σ H q => asg_rd q
end
end DD
set_option Elab.async false
set_option linter.all false
set_option maxRecDepth 100000
set_option maxHeartbeats 4000000
namespace DD
open PySem PySem.Spec L2
open Classical in
/-! ## what is walked -/
structure Src where
  items : List D
  chk : Hd → Prop
def SrcOk (c : Ct) (w : Wd) (s : Src) (J : It) : Prop := ∃ (G : Hp → Prop) (Y : Nat → Hp → V → Hp → Prop), Walk J s.items.length G Y ∧ (∀ w2 h2 H2, Le0 w w2 → SR c w2 h2 H2 → s.chk h2 → G H2) ∧
  (∀ i x H2 H3 w2 h2, i < s.items.length → Le0 w w2 → SR c w2 h2 H2 → s.chk h2 → Y i H2 x H3 → ∃ w3 d, Le w2 w3 ∧ SR c w3 h2 H3 ∧ s.items[i]? = some d ∧ VR c w3 d x)
theorem SrcOk.le0 {c : Ct} {w w' : Wd} {s : Src} {J : It} (l : Le0 w w') (h : SrcOk c w s J) : SrcOk c w' s J := by
  obtain ⟨G, Y, a, b, d⟩ := h
  exact ⟨G, Y, a, fun w2 h2 H2 l2 => b w2 h2 H2 (l.trans l2), fun i x H2 H3 w2 h2 hi l2 => d i x H2 H3 w2 h2 hi (l.trans l2)⟩
abbrev MI := Env → Hd → Res Src
abbrev tI (c : Ct) (W : WX) (m : MI) : TI := tP (fun w _ s J => SrcOk c w s J) c W m
def SI (X : Cx) (W : WX) (tg iter : Expr) (m : MI) : Prop := PI X tg iter (tI (Cx.ct X) W m)
theorem PI.imp {X : Cx} {tg e : Expr} {t t' : TI} (h : PI X tg e t) (i : ∀ σ H R, t' σ H R → t σ H R) : PI X tg e t' := ⟨fun pins s σ H R I q => h.run pins s σ H R I (i _ _ _ q)⟩
/-- by the value: a list, a tuple, a text -/
def iAny (K : PySem.W.Frag) (te : TE) : TI := fun σ H R => te σ H fun v H1 => (∃ a xs, v = .ref a ∧ SqL K H1 a xs ∧ R (Itl K a) H1) ∨ (∃ a xs, v = .ref a ∧ SqT K H1 a xs ∧ R (Itt K a) H1) ∨ ∃ x, v = .str x ∧ R (Its x) H1
theorem PE.const {X : Cx} {e : Expr} {te : TE} (he : PE X e te) : True := trivial
open PyProof.Rows in
theorem pi_any {X : Cx} {tg e : Expr} {te : TE} (he : PE X e te) : PI X tg e (iAny X.K te) := by
  refine ⟨fun pins s σ H R I h => ?_⟩
  refine thn (he.run pins s σ H _ I h) fun v s1 ⟨y, H1, I1, r1, q1⟩ => ?_
  rcases q1 with ⟨a, xs, rfl, hq, q⟩ | ⟨a, xs, rfl, hq, q⟩ | ⟨x, rfl, q⟩
  · cases r1
    obtain ⟨its, rv, p, hz⟩ := I1.list hq
    refine wpAny_pyIter_list p.isList ?_
    refine ⟨s1.heap.objs.size, [s1.heap.objs.size], _, _, H1, rfl, I1.kept (t' := s1.toks) fun b o e => Heap.get?_push_of_some _ e, turn_list a _, ⟨_, Heap.get?_push_size _ rfl, rfl, rfl⟩, fun b hb => ?_, q⟩
    have e : b = s1.heap.objs.size := by simpa using hb
    subst e
    exact I1.fpOk (Nat.le_refl _) (I1.hok.fresh (Nat.le_refl _))
  · cases r1
    obtain ⟨its, rv, p, hz⟩ := I1.tuple hq
    refine wpAny_pyIter_tuple (show s1.heap.IsTuple a its.toArray from p) ?_
    refine ⟨s1.heap.objs.size, [s1.heap.objs.size], _, _, H1, rfl, I1.kept (t' := s1.toks) fun b o e => Heap.get?_push_of_some _ e, turn_tuple a _, ⟨_, Heap.get?_push_size _ rfl, rfl, rfl⟩, fun b hb => ?_, q⟩
    have e : b = s1.heap.objs.size := by simpa using hb
    subst e
    exact I1.fpOk (Nat.le_refl _) (I1.hok.fresh (Nat.le_refl _))
  · obtain ⟨t, rfl⟩ := r1
    cases ha : x.cps.all (· < 128)
    · exact wpAny_pyIter_wide ha (pi_one (tk := s1.toks) I1 _ (turn_str _ x t "str_iterator" (.inr rfl)) ⟨_, Heap.get?_push_size _ rfl, rfl, rfl⟩ q)
    · exact wpAny_pyIter_ascii ha (pi_one (tk := s1.toks) I1 _ (turn_str _ x t "str_ascii_iterator" (.inl rfl)) ⟨_, Heap.get?_push_size _ rfl, rfl, rfl⟩ q)
def signs (s : Str) : List D := s.cps.toList.map fun c => .str ⟨#[c]⟩
def srcOf (h : Hd) : D → Option Src
  | .tup xs => some ⟨xs, fun _ => True⟩
  | .ktp xs => some ⟨xs, fun _ => True⟩
  | .rol xs => some ⟨xs, fun _ => True⟩
  | .lst xs => some ⟨xs, fun _ => True⟩
  | .str s => some ⟨signs s, fun _ => True⟩
  | .ref r => match h[r]? with
    | some (.lst xs) => some ⟨xs, fun h => h[r]? = some (.lst xs)⟩
    | _ => none
  | _ => none
def mIter (m : ME) : MI := fun ρ h => (m ρ h).bind fun d h => optR (srcOf h d) h
section
variable {X : Cx} {W : WX} {e a b : Expr} {st : Stmt} {rest body orelse : List Stmt} {ma mb : ME} {ta tb : MT} {sa sb : MS} {pos : Pos}
theorem srcL {c : Ct} {w : Wd} {a : Addr} {vs : List V} {ds : List D} {chk : Hd → Prop} (g : ∀ w2 h2 H2, Le0 w w2 → SR c w2 h2 H2 → chk h2 → SqL c.K H2 a vs) (r : VRs c w ds vs) : SrcOk c w ⟨ds, chk⟩ (Itl c.K a) := by
  refine ⟨_, _, (r.len ▸ walk_list : Walk (Itl c.K a) ds.length (fun H => SqL c.K H a vs) (YAt vs)), g, fun i x H2 H3 w2 h2 hi l s ck y => ?_⟩
  obtain ⟨rfl, e⟩ := y
  obtain ⟨d, e1, r1⟩ := r.get' e
  exact ⟨w2, d, .refl _, s, e1, r1.le0 l⟩
theorem srcT {c : Ct} {w : Wd} {a : Addr} {vs : List V} {ds : List D} (g : TpAt c.K w.F a vs) (r : VRs c w ds vs) : SrcOk c w ⟨ds, fun _ => True⟩ (Itt c.K a) := by
  refine ⟨_, _, (r.len ▸ walk_tup : Walk (Itt c.K a) ds.length (fun H => SqT c.K H a vs) (YAt vs)), fun w2 h2 H2 l s _ => SqT_le (fun a o q => s.F a o (l.F a o q)) g, fun i x H2 H3 w2 h2 hi l s ck y => ?_⟩
  obtain ⟨rfl, e⟩ := y
  obtain ⟨d, e1, r1⟩ := r.get' e
  exact ⟨w2, d, .refl _, s, e1, r1.le0 l⟩
theorem srcTK {c : Ct} {w : Wd} {a : Addr} {vs : List V} {ds : List D} (g : TpK c.K a vs) (r : VRs c w ds vs) : SrcOk c w ⟨ds, fun _ => True⟩ (Itt c.K a) := by
  refine ⟨_, _, (r.len ▸ walk_tup : Walk (Itt c.K a) ds.length (fun H => SqT c.K H a vs) (YAt vs)), fun w2 h2 H2 l s _ => g.sq, fun i x H2 H3 w2 h2 hi l s ck y => ?_⟩
  obtain ⟨rfl, e⟩ := y
  obtain ⟨d, e1, r1⟩ := r.get' e
  exact ⟨w2, d, .refl _, s, e1, r1.le0 l⟩
theorem srcR {c : Ct} {w : Wd} {a : Addr} {r : Nat} {xs : List D} (f : w.φ r = some a) : SrcOk c w ⟨xs, fun h => h[r]? = some (.lst xs)⟩ (Itl c.K a) := by
  refine ⟨fun H => ∃ vs, SqL c.K H a vs ∧ vs.length = xs.length, fun i H x H' => H' = H ∧ ∀ vs, SqL c.K H a vs → vs[i]? = some x, ⟨fun i H hi g => ?_, fun H g => ?_, fun i H x H' hi g y => y⟩, fun w2 h2 H2 l s ck => ?_, fun i x H2 H3 w2 h2 hi l s ck y => ?_⟩
  · obtain ⟨vs, q, e⟩ := g
    have hi' : i < vs.length := by rw [e]; exact hi
    exact ⟨vs, vs[i], q, List.getElem?_eq_getElem hi'⟩
  · obtain ⟨vs, q, e⟩ := g
    exact ⟨vs, q, by rw [e]; exact Nat.le_refl _⟩
  · obtain ⟨a2, vs2, ea2, q2, z2⟩ := lstOf_ok (xs := xs) (d := .ref r) (v := .ref a) s (by simp only [VR]; exact ⟨a, rfl, l.φ _ _ f⟩) (by simp only [lstOf]; rw [show h2[r]? = some (.lst xs) from ck])
    cases ea2
    exact ⟨vs2, SqL.of q2, z2.len.symm⟩
  · obtain ⟨rfl, y⟩ := y
    obtain ⟨a2, vs2, ea2, q2, z2⟩ := lstOf_ok (xs := xs) (d := .ref r) (v := .ref a) s (by simp only [VR]; exact ⟨a, rfl, l.φ _ _ f⟩) (by simp only [lstOf]; rw [show h2[r]? = some (.lst xs) from ck])
    cases ea2
    obtain ⟨d, e, r1⟩ := z2.get' (y _ (SqL.of q2))
    exact ⟨w2, d, .refl _, s, e, r1⟩
theorem signs_len (s : Str) : (signs s).length = s.cps.size := by simp [signs]
theorem srcS {c : Ct} {w : Wd} {s : Str} : SrcOk c w ⟨signs s, fun _ => True⟩ (Its s) := by
  refine ⟨_, _, (signs_len s ▸ walk_str : Walk (Its s) (signs s).length (fun _ => True) _), fun _ _ _ _ _ _ => trivial, fun i x H2 H3 w2 h2 hi l s' ck y => ?_⟩
  obtain ⟨rfl, z, e, rfl⟩ := y
  refine ⟨w2, .str ⟨#[z]⟩, .refl _, s', ?_, by simp only [VR]⟩
  simp only [signs, List.getElem?_map, Array.getElem?_toList, e, Option.map_some]
theorem any_rd {ct : Ct} {σ : L2.St} {H : Hp} {R : It → Hp → Prop} (q : tI ct W (mIter ma) σ H R) : iAny ct.K (tE ct W ma) σ H R := by
  refine (tP.bind q).mono fun v H1 ⟨w1, ρ, h1, d, e1, s1, r1, p1⟩ => ?_
  obtain ⟨sr, eo, p2⟩ := optR_post p1
  have fin : ∀ J, SrcOk ct w1 sr J → R J H1 := fun J k => p2 J w1 H1 (.refl _) k s1
  cases d with
  | tup xs =>
    simp only [srcOf, Option.some.injEq] at eo; subst eo
    simp only [VR] at r1
    obtain ⟨a, vs, rfl, q, z⟩ := r1
    exact .inr (.inl ⟨a, vs, rfl, SqT_le s1.F q, fin _ (srcT q z)⟩)
  | ktp xs =>
    simp only [srcOf, Option.some.injEq] at eo; subst eo
    simp only [VR] at r1
    obtain ⟨a, vs, rfl, q, z⟩ := r1
    exact .inr (.inl ⟨a, vs, rfl, q.sq, fin _ (srcTK q z)⟩)
  | rol xs =>
    simp only [srcOf, Option.some.injEq] at eo; subst eo
    simp only [VR] at r1
    obtain ⟨a, vs, rfl, q, z⟩ := r1
    exact .inl ⟨a, vs, rfl, SqL_le s1.F q, fin _ (srcL (fun w2 h2 H2 l s _ => SqL_le (fun a o q => s.F a o (l.F a o q)) q) z)⟩
  | lst xs =>
    simp only [srcOf, Option.some.injEq] at eo; subst eo
    simp only [VR] at r1
    obtain ⟨a, vs, rfl, q, z⟩ := r1
    exact .inl ⟨a, vs, rfl, SqL.of (s1.F _ _ q), fin _ (srcL (fun w2 h2 H2 l s _ => SqL.of (s.F _ _ (l.F _ _ q))) z)⟩
  | str s =>
    simp only [srcOf, Option.some.injEq] at eo; subst eo
    simp only [VR] at r1; subst r1
    exact .inr (.inr ⟨s, rfl, fin _ srcS⟩)
  | ref r =>
    simp only [srcOf] at eo
    split at eo
    · rename_i xs q
      cases eo
      obtain ⟨a, vs, rfl, q1, z⟩ := lstOf_ok (xs := xs) s1 r1 (by simp only [lstOf, q])
      simp only [VR] at r1
      obtain ⟨a', ea, f⟩ := r1
      cases ea
      exact .inl ⟨a, vs, rfl, SqL.of q1, fin _ (srcR f)⟩
    · cases eo
  | _ => simp [srcOf] at eo
theorem i_any {tg : Expr} (ha : SE X W a ma) : SI X W tg a (mIter ma) := PI.imp (pi_any ha) fun σ H R q => any_rd q
end
end DD
set_option Elab.async false
set_option linter.all false
set_option maxRecDepth 100000
set_option maxHeartbeats 4000000
namespace DD
open PySem PySem.Spec L2
open Classical
/-! ## for -/
def afterB (k : Env → Hd → Fl) : Fl → Fl
  | .nx ρ h => k ρ h
  | .ct ρ h => k ρ h
  | .bk ρ h => .nx ρ h
  | r => r
noncomputable def forGo (chk : Hd → Prop) (g : MG) (b : MS) : List D → Env → Hd → Fl
  | [], ρ, h => if chk h then .nx ρ h else .bad
  | d :: ds, ρ, h => if chk h then (match g d ρ h with
    | .ok ρ1 h1 => afterB (fun ρ2 h2 => forGo chk g b ds ρ2 h2) (b ρ1 h1)
    | .exc x h1 => .exc x ρ h1
    | .bad => .bad) else .bad
noncomputable def mFor (mi : MI) (g : MG) (b : MS) : MS := liftR mi fun s ρ h => forGo s.chk g b s.items ρ h
section
variable {X : Cx} {W : WX} {e a : Expr} {st : Stmt} {rest body orelse : List Stmt} {ma mb : ME} {ta tb : MT} {sa b : MS} {pos : Pos}
theorem s_for {tg iter : Expr} {mi : MI} {g : MG} {ix : List Nat} (hc : X.calm = true) (hi : SI X W tg iter mi) (hg : SG X W ix tg g) (hb : SSs X W body b) (hp : PassesOwn (model X.prog X.w) X.A X.env X.xe)
    (hs : ∀ x, foldedSetIterable iter X.env x = pure x := by intro _; rfl) : SS X W (.For tg iter body [] pos) (mFor mi g b) := PS.imp (ps_for hp hc hi hg hb hs) fun Dn σ H q => by
  refine (tS.lift q).mono fun J H1 ⟨w1, ρ, h1, s, e1, s1, k1, p1⟩ => ?_
  obtain ⟨G, Y, wk, hG, hY⟩ := id k1
  refine for_it wk (fun i σ H => ∃ w ρ h, Le w1 w ∧ ER (Cx.ct X) w ρ σ ∧ SR (Cx.ct X) w h H ∧ PostS (Cx.ct X) w W (forGo s.chk g b (s.items.drop i) ρ h) Dn) ⟨w1, ρ, h1, .refl _, e1, s1, p1⟩ ?_ ?_ ?_
  · rintro i σ' H' hi ⟨w, ρ, h, l, e, sr, p⟩
    refine hG w h H' l.toLe0 sr ?_
    by_cases ck : s.chk h
    · exact ck
    · exfalso
      cases q : s.items.drop i with
      | nil => rw [q] at p; simp only [forGo, if_neg ck] at p; exact p
      | cons d ds => rw [q] at p; simp only [forGo, if_neg ck] at p; exact p
  · rintro i x σ' H' H'' hi ⟨w, ρ, h, l, e, sr, p⟩ y
    have hd : s.items.drop i = s.items[i] :: s.items.drop (i + 1) := List.drop_eq_getElem_cons hi
    rw [hd] at p
    simp only [forGo] at p
    split at p
    · rename_i ck
      obtain ⟨w3, d, l3, sr3, ed, r3⟩ := hY i x H' H'' w h hi l.toLe0 sr ck y
      rw [List.getElem?_eq_getElem hi] at ed
      cases ed
      refine ⟨w3, ρ, h, s.items[i], e.le l3, sr3, r3, ?_⟩
      cases q1 : g s.items[i] ρ h with
      | ok ρ1 h1 =>
        rw [q1] at p
        refine fun σ2 w2 H2 l2 e2 sr2 _ => ⟨w2, ρ1, h1, e2, sr2, ?_⟩
        have p' : PostS (Cx.ct X) w W (afterB (fun ρ2 h2 => forGo s.chk g b (s.items.drop (i + 1)) ρ2 h2) (b ρ1 h1)) Dn := p
        have l' : Le w w2 := l3.trans l2
        have p2 := PostS.le l' p'
        cases q2 : b ρ1 h1 with
        | nx ρ2 h2 => rw [q2] at p2; exact fun σ3 w3 H3 l3 e3 s3 => ⟨w3, ρ2, h2, (l.trans l').trans l3, e3, s3, PostS.le l3 p2⟩
        | ct ρ2 h2 => rw [q2] at p2; exact fun σ3 w3 H3 l3 e3 s3 => ⟨w3, ρ2, h2, (l.trans l').trans l3, e3, s3, PostS.le l3 p2⟩
        | bk ρ2 h2 => rw [q2] at p2; exact fun σ3 w3 H3 l3 e3 s3 => p2 σ3 w3 H3 l3 e3 s3
        | rt d h2 => rw [q2] at p2; exact p2
        | exc x ρ2 h2 => rw [q2] at p2; exact p2
        | bad => rw [q2] at p2; exact p2
      | exc x h1 => rw [q1] at p; exact fun cls dx w2 H2 l2 sr2 x2 => p cls dx σ' w2 H2 (l3.trans l2) (e.le (l3.trans l2)) sr2 x2
      | bad => rw [q1] at p; exact p
    · exact p.elim
  · rintro σ' H' ⟨w, ρ, h, l, e, sr, p⟩
    rw [List.drop_length] at p
    simp only [forGo] at p
    split at p
    · exact p.nx e sr
    · exact p.elim

/-! ## while -/
def whileN (t : MT) (b : MS) : Nat → MS
  | 0 => fun _ _ => .bad
  | n + 1 => liftR t fun k ρ h => if k then afterB (whileN t b n) (b ρ h) else .nx ρ h
/-- the answer, whatever the turns -/
noncomputable def mWhile (t : MT) (b : MS) : MS := fun ρ h => if q : ∃ n, whileN t b n ρ h ≠ .bad then whileN t b q.choose ρ h else .bad
theorem whileN_rd {c : Ct} {σ : L2.St} {H : Hp} {Dn : Ends} : ∀ (n : Nat) {w : Wd} {ρ : Env} {h : Hd}, ER c w ρ σ → SR c w h H → PostS c w W (whileN ta b n ρ h) Dn → tWhile (tT c W ta) (tS c W b) Dn σ H := fun n w ρ h e s p => by
  refine ⟨fun m σ H => ∃ w ρ h, ER c w ρ σ ∧ SR c w h H ∧ PostS c w W (whileN ta b m ρ h) Dn, ⟨n, w, ρ, h, e, s, p⟩, ?_⟩
  rintro m σ1 H1 ⟨w, ρ, h, e, s, p⟩
  cases m with
  | zero => exact p.elim
  | succ m =>
    refine (tS.lift (R := RB) ⟨w, ρ, h, e, s, p⟩).mono ?_
    rintro v H2 ⟨w2, ρ2, h2, d, e2, s2, r2, p2⟩
    cases r2
    cases v with
    | false => exact p2.nx e2 s2
    | true =>
      refine ⟨fun σ' H' => ∃ w ρ h, ER c w ρ σ' ∧ SR c w h H' ∧ PostS c w W (whileN ta b m ρ h) Dn, fun σ' H' q => ⟨m, Nat.lt_succ_self _, q⟩, w2, ρ2, h2, e2, s2, ?_⟩
      have p' : PostS c w2 W (afterB (whileN ta b m) (b ρ2 h2)) Dn := p2
      cases q2 : b ρ2 h2 with
      | nx ρ3 h3 => rw [q2] at p'; exact fun σ3 w3 H3 l3 e3 s3 => ⟨w3, ρ3, h3, e3, s3, PostS.le l3 p'⟩
      | ct ρ3 h3 => rw [q2] at p'; exact fun σ3 w3 H3 l3 e3 s3 => ⟨w3, ρ3, h3, e3, s3, PostS.le l3 p'⟩
      | bk ρ3 h3 => rw [q2] at p'; exact p'
      | rt d h3 => rw [q2] at p'; exact p'
      | exc x ρ3 h3 => rw [q2] at p'; exact p'
      | bad => rw [q2] at p'; exact p'
theorem s_while (ht : ST X W a ta) (hb : SSs X W body b) (hp : PassesOwn (model X.prog X.w) X.A X.env X.xe) : SS X W (.While a body [] pos) (mWhile ta b) := PS.imp (ps_while hp ht hb) fun Dn σ H ⟨w, ρ, h, e, s, p⟩ => by
  unfold mWhile at p
  split at p
  · exact whileN_rd _ e s p
  · exact p.elim
theorem whileN_more {t : MT} {b : MS} : ∀ {n : Nat} {ρ : Env} {h : Hd}, whileN t b n ρ h ≠ .bad → whileN t b (n + 1) ρ h = whileN t b n ρ h
  | 0, ρ, h, q => absurd rfl q
  | n + 1, ρ, h, q => by
    have q' : liftR t (fun k ρ h => if k then afterB (whileN t b n) (b ρ h) else .nx ρ h) ρ h ≠ .bad := q
    show liftR t (fun k ρ h => if k then afterB (whileN t b (n + 1)) (b ρ h) else .nx ρ h) ρ h = liftR t (fun k ρ h => if k then afterB (whileN t b n) (b ρ h) else .nx ρ h) ρ h
    unfold liftR at q' ⊢
    cases e1 : t ρ h with
    | ok k h1 =>
      rw [e1] at q'
      cases k with
      | false => rfl
      | true =>
        have q2 : afterB (whileN t b n) (b ρ h1) ≠ .bad := q'
        show afterB (whileN t b (n + 1)) (b ρ h1) = afterB (whileN t b n) (b ρ h1)
        cases e : b ρ h1 with
        | nx ρ2 h2 => rw [e] at q2; exact whileN_more (n := n) q2
        | ct ρ2 h2 => rw [e] at q2; exact whileN_more (n := n) q2
        | _ => rfl
    | exc x h1 => rfl
    | bad => rfl
theorem whileN_le {t : MT} {b : MS} {n m : Nat} {ρ : Env} {h : Hd} (q : whileN t b n ρ h ≠ .bad) (l : n ≤ m) : whileN t b m ρ h = whileN t b n ρ h := by
  induction l with
  | refl => rfl
  | step l ih => rw [whileN_more (by rw [ih]; exact q), ih]
/-- the answer of n turns -/
theorem mWhile_eq {t : MT} {b : MS} {n : Nat} {ρ : Env} {h : Hd} (q : whileN t b n ρ h ≠ .bad) : mWhile t b ρ h = whileN t b n ρ h := by
  have ex : ∃ n, whileN t b n ρ h ≠ .bad := ⟨n, q⟩
  unfold mWhile
  rw [dif_pos ex]
  rcases Nat.le_total n ex.choose with l | l
  · exact whileN_le q l
  · exact (whileN_le ex.choose_spec l).symm

/-! ## comprehensions -/
def W0 : WX := fun _ _ _ _ => False
def noX {α : Type} (m : Env → Hd → Res α) : Env → Hd → Res α := fun ρ h => match m ρ h with
  | .exc _ _ => .bad
  | r => r
noncomputable def lcGo (chk : Hd → Prop) (g : MG) (t : MT) (e : ME) (ρ : Env) : List D → List D → Hd → Res (List D)
  | [], acc, h => if chk h then .ok acc h else .bad
  | d :: ds, acc, h => if chk h then ((noX (g d) ρ h).bind fun ρ1 h1 => (noX t ρ1 h1).bind fun k h2 => if k then ((noX e ρ1 h2).bind fun y h3 => if acc.length < sizeLine then lcGo chk g t e ρ ds (acc ++ [y]) h3 else .bad) else lcGo chk g t e ρ ds acc h2) else .bad
noncomputable def mLc (vs : List Nat) (mi : MI) (g : MG) (t : MT) (e : ME) : Env → Hd → Res O := fun ρ h => (mi ρ h).bind fun s h => (lcGo s.chk g t e (wipeD ρ vs) s.items [] h).bind fun ds h => .ok (.new (.lst ds)) h
def tYesM : MT := fun _ h => .ok true h
def STs (X : Cx) (W : WX) (ifs : List Expr) (m : MT) : Prop := PTs X ifs (tT (Cx.ct X) W m)
theorem PTs.imp {X : Cx} {e : List Expr} {t t' : TT} (h : PTs X e t) (i : ∀ σ H Q, t' σ H Q → t σ H Q) : PTs X e t' := ⟨fun pins s σ H Q I q => h.run pins s σ H Q I (i _ _ _ q)⟩
theorem ts_nil : STs X W [] tYesM := PTs.imp pts_nil fun σ H Q ⟨w, ρ, h, e, s, p⟩ => p.ret rfl s
theorem ts_one (h : ST X W a ta) : STs X W [a] ta := pts_one h
end
theorem noX_post {α β : Type} {R : Wd → Hp → α → β → Prop} {c : Ct} {w : Wd} {W : WX} {σ : L2.St} {m : Env → Hd → Res α} {ρ : Env} {h : Hd} {Q : β → Hp → Prop} (p : Post R c w W σ (noX m ρ h) Q) : Post R c w W0 σ (m ρ h) Q := by
  unfold noX at p
  cases q : m ρ h with
  | ok a h1 => rw [q] at p; exact p
  | exc x h1 => rw [q] at p; exact p.elim
  | bad => rw [q] at p; exact p
theorem Post.W {α β : Type} {R : Wd → Hp → α → β → Prop} {c : Ct} {w : Wd} {W W' : WX} {σ : L2.St} {r : Res α} {Q : β → Hp → Prop} (p : Post R c w W σ r Q) (n : ∀ x h, r ≠ .exc x h) : Post R c w W' σ r Q := by
  cases r with
  | ok a h => exact p
  | exc x h => exact absurd rfl (n x h)
  | bad => exact p
theorem noX_bind {α γ : Type} (m : Env → Hd → Res α) (ρ : Env) (h : Hd) (k : α → Hd → Res γ) (nk : ∀ a h x h', k a h ≠ .exc x h') : ∀ x h', (noX m ρ h).bind k ≠ .exc x h' := fun x h' => by
  unfold noX
  cases m ρ h with
  | ok a h1 => exact nk a h1 x h'
  | exc _ _ => intro q; cases q
  | bad => intro q; cases q
theorem lcGo_nox (chk : Hd → Prop) (g : MG) (t : MT) (e : ME) (ρ : Env) : ∀ (ds acc : List D) (h : Hd) (x : Xc) (h' : Hd), lcGo chk g t e ρ ds acc h ≠ .exc x h'
  | [], acc, h, x, h' => by
    unfold lcGo
    split <;> intro q <;> cases q
  | d :: ds, acc, h, x, h' => by
    unfold lcGo
    split
    · refine noX_bind _ _ _ _ (fun ρ1 h1 => ?_) x h'
      refine noX_bind _ _ _ _ (fun k h2 x2 h3 => ?_)
      split
      · refine noX_bind _ _ _ _ (fun y h4 x4 h5 => ?_) x2 h3
        split
        · exact lcGo_nox chk g t e ρ ds _ _ _ _
        · intro q; cases q
      · exact lcGo_nox chk g t e ρ ds _ _ _ _
    · intro q; cases q
theorem Le0.P (w : Wd) (P : Hp) : Le0 w { w with P := P } := ⟨fun _ _ q => q, fun _ _ q => q⟩
/-- something pinned -/
def Wd.pinAt (w : Wd) (a : Addr) (o : HO) : Wd := { w with P := upd w.P a o }
theorem SR.pinned {c : Ct} {w : Wd} {h : Hd} {H : Hp} {a : Addr} {o : HO} (s : SR c w h H) (f : FreshAt w a) (e : H a = some o) (n : pinO o) : SR c (w.pinAt a o) h H where
  F := s.F
  P := fun b u q => by
    have q' : upd w.P a o b = some u := q
    by_cases hb : b = a
    · subst hb; rw [upd_same] at q'; cases q'; exact e
    · rw [upd_ne hb] at q'; exact s.P b u q'
  pin := fun b u q => by
    have q' : upd w.P a o b = some u := q
    by_cases hb : b = a
    · subst hb; exact ⟨f.F, f.φ⟩
    · rw [upd_ne hb] at q'; exact s.pin b u q'
  cell := fun r z q g => by
    obtain ⟨b, q1, q2, q3, q4⟩ := s.cell r z q g
    refine ⟨b, q1, q2, ?_, q4.le0 (Le0.P w _) rfl⟩
    show upd w.P a o b = none
    rw [upd_ne (by rintro rfl; exact f.φ r q1)]; exact q3
  inj := s.inj
  dom := s.dom
  ng := s.ng
  tab := by
    have ne := s.tab.ne (a := a) fun ps z => n.1.1 ps (Option.some.inj (e.symm.trans z))
    refine ⟨fun P l => ?_, s.tab.nF, fun b u q => ?_⟩
    · obtain ⟨e1, q1, q2, q3⟩ := s.tab.tb P l
      exact ⟨e1, q1, by show upd w.P a o P = none; rw [upd_ne (ne P l)]; exact q2, q3⟩
    · have q' : upd w.P a o b = some u := q
      by_cases hb : b = a
      · subst hb; rw [upd_same] at q'; cases q'; exact n
      · rw [upd_ne hb] at q'; exact s.tab.nP b u q'
/-- what is pinned is written -/
theorem SR.repin {c : Ct} {w : Wd} {h : Hd} {H : Hp} {a : Addr} {o u : HO} (s : SR c w h H) (e : w.P a = some o) (n : pinO u) : SR c { w with P := upd w.P a u } h (upd H a u) where
  F := fun b v q => by rw [upd_ne (by rintro rfl; rw [(s.pin b o e).1] at q; cases q)]; exact s.F b v q
  P := fun b v q => by
    have q' : upd w.P a u b = some v := q
    by_cases hb : b = a
    · subst hb; rw [upd_same] at q' ⊢; exact q'
    · rw [upd_ne hb] at q' ⊢; exact s.P b v q'
  pin := fun b v q => by
    have q' : upd w.P a u b = some v := q
    by_cases hb : b = a
    · subst hb; exact s.pin b o e
    · rw [upd_ne hb] at q'; exact s.pin b v q'
  cell := fun r z q g => by
    obtain ⟨b, q1, q2, q3, q4⟩ := s.cell r z q g
    have hb : b ≠ a := by rintro rfl; exact (s.pin b o e).2 r q1
    refine ⟨b, q1, q2, ?_, q4.le0 (Le0.P w _) (upd_ne hb)⟩
    show upd w.P a u b = none
    rw [upd_ne hb]; exact q3
  inj := s.inj
  dom := fun r b q => by
    obtain ⟨x, v, y⟩ := s.dom r b q
    exact ⟨x, v, by rw [upd_ne (by rintro rfl; exact (s.pin b o e).2 r q)]; exact y⟩
  ng := s.ng
  tab := by
    have ne : ∀ P, lawTab c.K c.mg P → P ≠ a := fun P l z => by
      have := (s.tab.tb P l).2.2.1
      rw [z, e] at this
      cases this
    have t := s.tab.upd ne u
    refine ⟨fun P l => ?_, s.tab.nF, fun b v q => ?_⟩
    · obtain ⟨e1, q1, q2, q3⟩ := t.tb P l
      exact ⟨e1, q1, by show upd w.P a u P = none; rw [upd_ne (ne P l)]; exact q2, q3⟩
    · have q' : upd w.P a u b = some v := q
      by_cases hb : b = a
      · subst hb; rw [upd_same] at q'; cases q'; exact n
      · rw [upd_ne hb] at q'; exact s.tab.nP b v q'
theorem SR.unpin {c : Ct} {w : Wd} {h : Hd} {H : Hp} {a : Addr} {o : HO} {P0 : Hp} (s : SR c w h H) (e : w.P = upd P0 a o) (n : P0 a = none) : SR c { w with P := P0 } h H ∧ FreshAt { w with P := P0 } a ∧ H a = some o := by
  have ea : w.P a = some o := by rw [e, upd_same]
  have sub : ∀ b u, P0 b = some u → w.P b = some u := fun b u q => by rw [e, upd_ne (by rintro rfl; rw [n] at q; cases q)]; exact q
  refine ⟨⟨s.F, fun b u q => s.P b u (sub b u q), fun b u q => s.pin b u (sub b u q), fun r z q g => ?_, s.inj, s.dom, ?_, s.ng⟩, ⟨(s.pin a o ea).1, n, (s.pin a o ea).2⟩, s.P a o ea⟩
  obtain ⟨b, q1, q2, q3, q4⟩ := s.cell r z q g
  refine ⟨b, q1, q2, ?_, q4.le0 (Le0.P w _) rfl⟩
  show P0 b = none
  cases q : P0 b with
  | none => rfl
  | some u => rw [sub b u q] at q3; cases q3
  refine ⟨fun P l => ?_, s.tab.nF, fun b u q => s.tab.nP b u (sub b u q)⟩
  obtain ⟨e1, q1, q2, q3⟩ := s.tab.tb P l
  refine ⟨e1, q1, ?_, q3⟩
  show P0 P = none
  cases q : P0 P with
  | none => rfl
  | some u => rw [sub P u q] at q2; cases q2
section
variable {X : Cx} {W : WX} {pos : Pos}
theorem lc_rd {ct : Ct} {vs : List Nat} {mi : MI} {g : MG} {t : MT} {e : ME} {ix : List Nat} (hix : ∀ i ∈ ix, i ∈ vs) {σ : L2.St} {H : Hp} {Q : VK} (q : tP (RO ct) ct W (mLc vs mi g t e) σ H Q) : tLc (tI ct W mi) (tG ct W0 ix g) (tT ct W0 t) (tE ct W0 e) vs σ H Q := by
  refine (tP.bind q).mono fun J H1 ⟨w1, ρ, h1, s, e1, s1, k1, p1⟩ D hD => ?_
  obtain ⟨G, Y, wk, hG, hY⟩ := id k1
  have f0 := FreshAt.of s1 hD
  have sD : SR ct (w1.pinAt D (.lst [])) h1 (upd H1 D (.lst [])) := (s1.laid hD _).pinned f0 upd_same (pin_lst _)
  refine lc_it wk (fun i H' => ∃ w h acc ds, Le0 w1 w ∧ w.P = upd w1.P D (.lst acc) ∧ SR ct w h H' ∧ VRs ct w ds acc ∧ Post (RO ct) ct w1 W σ ((lcGo s.chk g t e (wipeD ρ vs) (s.items.drop i) ds h).bind fun ds h => .ok (.new (.lst ds)) h) Q)
    ⟨w1.pinAt D (.lst []), h1, [], [], ⟨fun _ _ q => q, fun _ _ q => q⟩, rfl, sD, .nil, p1⟩ ?_ ?_ ?_
  · rintro i H' hi ⟨w, h, acc, ds, l, eP, sr, r, p⟩
    refine hG w h H' l sr ?_
    by_cases ck : s.chk h
    · exact ck
    · exfalso
      cases q : s.items.drop i with
      | nil => rw [q] at p; simp only [lcGo, if_neg ck] at p; exact p
      | cons d ds => rw [q] at p; simp only [lcGo, if_neg ck] at p; exact p
  · rintro i x H' H'' hi ⟨w, h, acc, ds, l, eP, sr, r, p⟩ y
    have hd : s.items.drop i = s.items[i] :: s.items.drop (i + 1) := List.drop_eq_getElem_cons hi
    rw [hd] at p
    simp only [lcGo] at p
    by_cases ck : s.chk h
    · rw [if_pos ck] at p
      obtain ⟨w3, d, l3, sr3, ed, r3⟩ := hY i x H' H'' w h hi l sr ck y
      rw [List.getElem?_eq_getElem hi] at ed
      cases ed
      have e3 : ER ct w3 (wipeD ρ vs) (wipe σ vs) := ((e1.le0 l).le l3).wipe vs
      refine ⟨w3, wipeD ρ vs, h, s.items[i], e3, sr3, r3, ?_⟩
      -- the target
      cases q1 : g s.items[i] (wipeD ρ vs) h with
      | bad => simp only [noX, q1, Res.bind] at p; exact p.elim
      | exc x h1 => simp only [noX, q1, Res.bind] at p; exact p.elim
      | ok ρ1 h1 =>
        refine fun σ2 w4 H2 l4 e4 sr4 x4 => ⟨(x4.mono hix).wipe.trans ?_, w4, ρ1, h1, e4, sr4, ?_⟩
        · have : ∀ (vs : List Nat) (σ : L2.St), wipe (wipe σ vs) vs = wipe σ vs := fun vs σ => Eqx.wipe (σ := σ) (σ1 := wipe σ vs) ⟨wipe_length _ _, fun i h => wipe_out h⟩
          exact this vs σ
        · have pg : Post (RO ct) ct w1 W σ (((noX t ρ1 h1).bind fun k h2 => if k then ((noX e ρ1 h2).bind fun y h3 => if ds.length < sizeLine then lcGo s.chk g t e (wipeD ρ vs) (s.items.drop (i + 1)) (ds ++ [y]) h3 else .bad) else lcGo s.chk g t e (wipeD ρ vs) (s.items.drop (i + 1)) ds h2).bind fun ds h => .ok (.new (.lst ds)) h) Q := by
            simpa only [noX, q1, Res.bind] using p
          cases q2 : t ρ1 h1 with
          | bad => simp only [noX, q2, Res.bind] at pg; exact pg.elim
          | exc x h1 => simp only [noX, q2, Res.bind] at pg; exact pg.elim
          | ok k h2 =>
            intro k' w5 H3 l5 ek sr5
            cases ek
            have eP5 : w5.P = upd w1.P D (.lst acc) := l5.P.trans (l4.P.trans (l3.P.trans eP))
            have l05 : Le0 w w5 := l3.toLe0.trans (l4.toLe0.trans l5.toLe0)
            have pt : Post (RO ct) ct w1 W σ ((if k = true then ((noX e ρ1 h2).bind fun y h3 => if ds.length < sizeLine then lcGo s.chk g t e (wipeD ρ vs) (s.items.drop (i + 1)) (ds ++ [y]) h3 else .bad) else lcGo s.chk g t e (wipeD ρ vs) (s.items.drop (i + 1)) ds h2).bind fun ds h => .ok (.new (.lst ds)) h) Q := by
              simpa only [noX, q2, Res.bind] using pg
            cases k with
            | false => exact ⟨w5, h2, acc, ds, l.trans l05, eP5, sr5, r.le0 l05, pt⟩
            | true =>
              refine ⟨w5, ρ1, h2, e4.le l5, sr5, ?_⟩
              simp only [if_true] at pt
              cases q3 : e ρ1 h2 with
              | bad => simp only [noX, q3, Res.bind] at pt; exact pt.elim
              | exc x h1 => simp only [noX, q3, Res.bind] at pt; exact pt.elim
              | ok y h3 =>
                intro v w6 H4 l6 r6 sr6
                have pe : Post (RO ct) ct w1 W σ ((if ds.length < sizeLine then lcGo s.chk g t e (wipeD ρ vs) (s.items.drop (i + 1)) (ds ++ [y]) h3 else .bad).bind fun ds h => .ok (.new (.lst ds)) h) Q := by
                  simpa only [noX, q3, Res.bind] using pt
                split at pe
                · rename_i hz
                  have eP6 : w6.P = upd w1.P D (.lst acc) := l6.P.trans eP5
                  have l06 : Le0 w w6 := l05.trans l6.toLe0
                  have hDw : w6.P D = some (.lst acc) := by rw [eP6, upd_same]
                  refine ⟨acc, sr6.P D _ hDw, by rw [← r.len]; exact hz, ⟨w6.F, upd w6.P D (.lst (acc ++ [v])), w6.φ⟩, h3, acc ++ [v], ds ++ [y], ⟨fun a o q => l06.F a o (l.F a o q), fun a o q => l06.φ a o (l.φ a o q)⟩, ?_, sr6.repin hDw (pin_lst _), ?_, pe⟩
                  · show upd w6.P D (.lst (acc ++ [v])) = upd w1.P D (.lst (acc ++ [v]))
                    rw [eP6, upd_upd]
                  · exact VRs.le0 (Le0.P w6 _) ((r.le0 l06).append (.one r6))
                · exact pe.elim
    · rw [if_neg ck] at p; exact p.elim
  · rintro H' ⟨w, h, acc, ds, l, eP, sr, r, p⟩
    rw [List.drop_length] at p
    simp only [lcGo] at p
    split at p
    · obtain ⟨sr', f', eD⟩ := sr.unpin eP f0.P
      exact p (.ref D) { w with P := w1.P } H' ⟨⟨l.F, l.φ⟩, rfl⟩ ⟨by intro z; (cases z), D, rfl, f', acc, eD, r.le0 (Le0.P w _)⟩ sr'
    · exact p.elim
theorem e_lc {elt tg iter : Expr} {ifs : List Expr} {scope : Scope} {own : List (Str × Nat)} {mi : MI} {g : MG} {t : MT} {e : ME} {ix vs : List Nat} (hc : X.calm = true) (hN : X.N.Nodup) (hi : SI X W tg iter mi) (ok : BlkOk X.N X.env.scope scope own)
    (hg : ∀ (s : Shared) (H : Hp) (C : Addr) (cl : List (Str × Addr)) (fp : List Addr), SG (X.blk s H scope (compEnvC scope cl C X.env) fp) W0 ix tg g) (ht : ∀ (s : Shared) (H : Hp) (C : Addr) (cl : List (Str × Addr)) (fp : List Addr), STs (X.blk s H scope (compEnvC scope cl C X.env) fp) W0 ifs t)
    (he : ∀ (s : Shared) (H : Hp) (C : Addr) (cl : List (Str × Addr)) (fp : List Addr), SE (X.blk s H scope (compEnvC scope cl C X.env) fp) W0 elt e) (hix : ∀ i ∈ ix, i ∈ own.map (·.2) := by decide) (hs : ∀ x, foldedSetIterable iter X.env x = pure x := by intro _; rfl) (hv : own.map (·.2) = vs := by rfl) :
    SO X W (.ListComp elt [⟨tg, iter, ifs, 0⟩] scope pos) (mLc vs mi g t e) := by
  subst hv
  exact PE.imp (pe_lc (g := tG (Cx.ct X) W0 ix g) (tt := tT (Cx.ct X) W0 t) (te := tE (Cx.ct X) W0 e) hc hN hi ok hg ht he hs) fun σ H Q q => lc_rd hix q
end
end DD
set_option Elab.async false
set_option linter.all false
set_option maxRecDepth 100000
set_option maxHeartbeats 4000000
namespace DD
open PySem PySem.Spec L2
/-! ## arguments, displays -/
def aNil : MA := fun _ h => .ok [] h
def aCons (m : ME) (r : MA) : MA := fun ρ h => (m ρ h).bind fun d h => (r ρ h).bind fun ds h => .ok (d :: ds) h
def mTup (m : MA) : ME := fun ρ h => (m ρ h).bind fun ds h => if ds.length ≤ sizeLine then .ok (.tup ds) h else .bad
def mLst (m : MA) : Env → Hd → Res O := fun ρ h => (m ρ h).bind fun ds h => if ds.length ≤ sizeLine then .ok (.new (.lst ds)) h else .bad
theorem new_tup {c : Ct} {w : Wd} {h : Hd} {H : Hp} {ds : List D} {vs : List V} {p : Addr} (s : SR c w h H) (r : VRs c w ds vs) (hp : H p = none) : ∃ w', Le w w' ∧ SR c w' h (upd H p (.tup vs)) ∧ VR c w' (.tup ds) (.ref p) := by
  obtain ⟨l, s'⟩ := (s.laid hp (.tup vs)).fz (FreshAt.of s hp) upd_same (plain_tup _)
  exact ⟨_, l, s', by simp only [VR]; exact ⟨p, vs, rfl, (by show upd w.F p _ p = _; exact upd_same), r.le l⟩⟩
theorem new_obj {c : Ct} {w : Wd} {h : Hd} {H : Hp} {z : Cell} {o : HO} {p : Addr} (s : SR c w h H) (hp : H p = none) (g : z ≠ .gone) (k : CellOk c w (upd H p o) p z) : SR c w h (upd H p o) ∧ RO c w (upd H p o) (.new z) (.ref p) :=
  ⟨s.laid hp o, g, p, rfl, FreshAt.of s hp, k⟩
section
variable {X : Cx} {W : WX} {e a b : Expr} {es : List Expr} {ma mb : ME} {mas : MA} {ta tb : MT} {pos : Pos}
theorem a_nil : SA X W [] aNil := PA.imp pa_nil fun σ H Q ⟨w, ρ, h, e, s, p⟩ => p.ret .nil s
theorem a_cons (ha : SE X W a ma) (hr : SA X W es mas) (hs : starEach (a :: es) X.env = (false, eval a X.env) :: starEach es X.env := by rfl) : SA X W (a :: es) (aCons ma mas) := PA.imp (pa_cons ha hr hs) fun σ H Q q => by
  refine (tP.bind q).mono fun v H1 ⟨w1, ρ, h1, d, e1, s1, r1, p1⟩ => ?_
  refine ⟨w1, ρ, h1, e1, s1, (Post.bind p1).mono fun vs H2 ⟨w2, h2, ds, l2, r2, s2, p2⟩ => ?_⟩
  exact p2.ret (.cons (r1.le l2) r2) s2
theorem e_tup {k} (ha : SA X W es mas) : SE X W (.Tuple es k pos) (mTup mas) := PE.imp (pe_tup ha) fun σ H Q q => by
  refine (tP.bind q).mono fun vs H1 ⟨w1, ρ, h1, ds, e1, s1, r1, p1⟩ => ?_
  split at p1
  · rename_i hz
    refine ⟨by rw [← r1.len]; exact hz, fun p hp => ?_⟩
    obtain ⟨w2, l, s2, r2⟩ := new_tup s1 r1 hp
    exact p1 _ w2 _ l r2 s2
  · exact p1.elim
theorem e_lst (ha : SA X W es mas) : SO X W (.List es pos) (mLst mas) := PE.imp (pe_lst ha) fun σ H Q q => by
  refine (tP.bind q).mono fun vs H1 ⟨w1, ρ, h1, ds, e1, s1, r1, p1⟩ => ?_
  split at p1
  · rename_i hz
    refine ⟨by rw [← r1.len]; exact hz, fun p hp => ?_⟩
    obtain ⟨s2, r2⟩ := new_obj (z := .lst ds) s1 hp (by intro z; cases z) ⟨vs, upd_same, r1⟩
    exact p1 _ w1 _ (.refl _) r2 s2
  · exact p1.elim

/-! ## items -/
def ixF (h : Hd) : D → D → Option D
  | .str s, .int i => if s.length ≤ sizeLine then (atI s.cps.toList i).map fun c => .str ⟨#[c]⟩ else none
  | d, .int i => (seqOf h d).bind fun xs => atI xs i
  | _, _ => none
def mIx (ma mb : ME) : ME := fun ρ h => (ma ρ h).bind fun x h => (mb ρ h).bind fun y h => optR (ixF h x y) h
theorem atI_rel {c : Ct} {w : Wd} {xs : List D} {vs : List V} {i : Int} {d : D} (r : VRs c w xs vs) (e : atI xs i = some d) : ∃ v, atI vs i = some v ∧ VR c w d v := by
  unfold atI at e ⊢
  rw [r.len] at e
  cases q : ixN vs.length i with
  | none => rw [q] at e; cases e
  | some j =>
    rw [q] at e
    exact r.get (show xs[j]? = some d from e)
theorem ixF_seq {h : Hd} {d : D} {i : Int} (n : ∀ s, d ≠ .str s) : ixF h d (.int i) = (seqOf h d).bind fun xs => atI xs i := by
  cases d <;> first | rfl | exact absurd rfl (n _)
theorem ix_ok {c : Ct} {w : Wd} {h : Hd} {H : Hp} {x y : V} {dx dy d : D} {Q : VK} (s : SR c w h H) (rx : VR c w dx x) (ry : VR c w dy y) (e : ixF h dx dy = some d) (q : ∀ v, VR c w d v → Q v H) : rIx c.K x y H Q := by
  cases dy with
  | int i =>
    simp only [VR] at ry; subst ry
    have seq : (∀ z, dx ≠ .str z) → rIx c.K x (.int i) H Q := fun n => by
      rw [ixF_seq n, Option.bind_eq_some_iff] at e
      obtain ⟨xs, e1, e2⟩ := e
      obtain ⟨a, vs, rfl, hq, r⟩ := seqOf_ok s rx e1
      obtain ⟨v, e3, r3⟩ := atI_rel r e2
      rcases hq with hq | hq
      · exact .inl ⟨a, vs, i, v, rfl, rfl, hq, e3, q v r3⟩
      · exact .inr (.inl ⟨a, vs, i, v, rfl, rfl, hq, e3, q v r3⟩)
    cases dx with
    | str z =>
      simp only [VR] at rx; subst rx
      simp only [ixF] at e
      split at e
      · rename_i hz
        cases ec : atI z.cps.toList i with
        | none => rw [ec] at e; cases e
        | some cc =>
          rw [ec] at e; cases e
          exact .inr (.inr ⟨z, i, cc, rfl, rfl, hz, ec, q _ (by simp only [VR])⟩)
      · cases e
    | _ => exact seq (fun _ q => by cases q)
  | _ => cases dx <;> simp [ixF] at e
theorem e_ix (ha : SE X W a ma) (hb : SE X W b mb) (hs : PlainIx b := by intro _ _; rfl) : SE X W (.Subscript a b pos) (mIx ma mb) := PE.imp (pe_ix ix_seq ha hb hs) fun σ H Q q => by
  refine (tP.bind q).mono fun v H1 ⟨w1, ρ, h1, d, e1, s1, r1, p1⟩ => ?_
  refine ⟨w1, ρ, h1, e1, s1, (Post.bind p1).mono fun u H2 ⟨w2, h2, d2, l2, r2, s2, p2⟩ => ?_⟩
  obtain ⟨d3, e3, p3⟩ := optR_post p2
  exact ix_ok (c := Cx.ct X) s2 (r1.le l2) r2 e3 fun v r => p3.ret r s2

/-! ## slices -/
abbrev MO := Env → Hd → Res (Option Int)
def oNone : MO := fun _ h => .ok none h
def oSome (m : ME) : MO := fun ρ h => (m ρ h).bind fun d h => match d with
  | .int i => .ok (some i) h
  | _ => .bad
abbrev RI : Wd → Hp → Option Int → Option Int → Prop := fun _ _ a b => a = b
def SOp (X : Cx) (W : WX) (e : Option Expr) (m : MO) : Prop := PO X e (tP RI (Cx.ct X) W m)
theorem PO.imp {X : Cx} {e : Option Expr} {t t' : TO} (h : PO X e t) (i : ∀ σ H Q, t' σ H Q → t σ H Q) : PO X e t' := ⟨fun pins s σ H Q I q => h.run pins s σ H Q I (i _ _ _ q)⟩
theorem o_none : SOp X W none oNone := PO.imp po_none fun σ H Q ⟨w, ρ, h, e, s, p⟩ => p.ret rfl s
theorem o_some (ha : SE X W a ma) : SOp X W (some a) (oSome ma) := PO.imp (po_some ha) fun σ H Q q => by
  refine (tP.bind q).mono fun v H1 ⟨w1, ρ, h1, d, e1, s1, r1, p1⟩ => ?_
  cases d with
  | int i => simp only [VR] at r1; exact ⟨i, r1, p1.ret rfl s1⟩
  | _ => exact p1.elim
def cutL {α : Type} (xs : List α) (lo hi : Option Int) : List α := (xs.drop (HT.sIx xs.length 0 lo)).take (HT.sIx xs.length xs.length hi - HT.sIx xs.length 0 lo)
theorem cutL_rel {c : Ct} {w : Wd} {xs : List D} {vs : List V} (r : VRs c w xs vs) (lo hi : Option Int) : VRs c w (cutL xs lo hi) (cutV vs lo hi) := by
  unfold cutL cutV
  rw [r.len]
  exact (r.drop _).take _
def slF (h : Hd) (d : D) (lo hi : Option Int) : Option O := match d with
  | .str s => if s.length ≤ sizeLine then some (.val (.str (cutS s lo hi))) else none
  | .tup xs => some (.val (.tup (cutL xs lo hi)))
  | .rol xs => some (.new (.lst (cutL xs lo hi)))
  | .lst xs => some (.new (.lst (cutL xs lo hi)))
  | .ref r => (lstOf h (.ref r)).map fun xs => .new (.lst (cutL xs lo hi))
  | _ => none
def mSl (m : ME) (ml mh : MO) : Env → Hd → Res O := fun ρ h => (m ρ h).bind fun d h => (ml ρ h).bind fun lo h => (mh ρ h).bind fun hi h => optR (slF h d lo hi) h
theorem sl_ok {c : Ct} {w : Wd} {W : WX} {σ : L2.St} {h : Hd} {H : Hp} {x : V} {d : D} {lo hi : Option Int} {o : O} {Q : VK} (s : SR c w h H) (r : VR c w d x) (e : slF h d lo hi = some o) (p : Post (RO c) c w W σ (.ok o h) Q) :
    rSlL c.K x lo hi H Q ∨ rSlA c.K x lo hi H Q ∨ rSlS x lo hi H Q := by
  have newL : ∀ a vs xs, SqL c.K H a vs → VRs c w xs vs → o = .new (.lst (cutL xs lo hi)) → x = .ref a → rSlL c.K x lo hi H Q := by
    rintro a vs xs hq z rfl rfl
    refine ⟨a, vs, rfl, hq, fun q hp => ?_⟩
    obtain ⟨s2, r2⟩ := new_obj (z := .lst (cutL xs lo hi)) s hp (by intro z; cases z) ⟨_, upd_same, cutL_rel z lo hi⟩
    exact p _ w _ (.refl _) r2 s2
  cases d with
  | str z =>
    simp only [VR] at r; subst r
    simp only [slF] at e
    split at e
    · rename_i hz; cases e
      exact .inr (.inr ⟨z, rfl, hz, p.ret (by simp only [RO, VR]) s⟩)
    · cases e
  | tup xs =>
    simp only [VR] at r
    obtain ⟨a, vs, rfl, q, z⟩ := r
    simp only [slF, Option.some.injEq] at e; subst e
    refine .inr (.inl ⟨a, vs, rfl, SqT_le s.F q, fun hw => ?_, fun hw q' hp => ?_⟩)
    · refine p.ret ?_ s
      simp only [RO, VR]
      refine ⟨a, vs, rfl, q, ?_⟩
      have : cutL xs lo hi = xs := by
        unfold cutL
        rw [z.len, hw.1, hw.2, List.drop_zero, ← z.len]
        exact List.take_length
      rw [this]; exact z
    · obtain ⟨w2, l, s2, r2⟩ := new_tup s (cutL_rel z lo hi) hp
      exact p _ w2 _ l r2 s2
  | rol xs =>
    simp only [VR] at r
    obtain ⟨a, vs, rfl, q, z⟩ := r
    simp only [slF, Option.some.injEq] at e
    exact .inl (newL a vs xs (SqL_le s.F q) z e.symm rfl)
  | lst xs =>
    simp only [VR] at r
    obtain ⟨a, vs, rfl, q, z⟩ := r
    simp only [slF, Option.some.injEq] at e
    exact .inl (newL a vs xs (SqL.of (s.F _ _ q)) z e.symm rfl)
  | ref k =>
    simp only [slF, Option.map_eq_some_iff] at e
    obtain ⟨xs, e1, e2⟩ := e
    obtain ⟨a, vs, rfl, q, z⟩ := lstOf_ok s r e1
    exact .inl (newL a vs xs (SqL.of q) z e2.symm rfl)
  | _ => simp [slF] at e
theorem e_sl {lo hi : Option Expr} {ml mh : MO} {p2 : Pos} (ha : SE X W a ma) (hl : SOp X W lo ml) (hh : SOp X W hi mh) : SO X W (.Subscript a (.Slice lo hi none p2) pos) (mSl ma ml mh) :=
  PE.imp (pe_slice (sl_list.or (sl_tupA.or sl_str)) ha hl hh) fun σ H Q q => by
  refine (tP.bind q).mono fun v H1 ⟨w1, ρ, h1, d, e1, s1, r1, p1⟩ => ?_
  refine ⟨w1, ρ, h1, e1, s1, (Post.bind p1).mono fun i H2 ⟨w2, h2, d2, l2, r2, s2, p2⟩ => ?_⟩
  cases r2
  refine ⟨w2, ρ, h2, e1.le l2, s2, (Post.bind p2).mono fun j H3 ⟨w3, h3, d3, l3, r3, s3, p3⟩ => ?_⟩
  cases r3
  obtain ⟨o, eo, p4⟩ := optR_post p3
  exact sl_ok s3 (r1.le (l2.trans l3)) eo p4

/-! ## stores -/
def setF (o i v : D) (h : Hd) : Option Hd := match o, i with
  | .ref r, .int k => match h[r]? with
    | some (.lst xs) => (ixN xs.length k).map fun j => h.set r (.lst (xs.set j v))
    | _ => none
  | _, _ => none
def gSub (mo mi : ME) : MG := fun d ρ h => (mo ρ h).bind fun o h => (mi ρ h).bind fun i h => match setF o i d h with
  | some h' => .ok ρ h'
  | none => .bad
theorem PostG.of {c : Ct} {w : Wd} {ix : List Nat} {σ : L2.St} {r : Res Env} {Q : L2.St → Hp → Prop} (p : PostG c w W ix σ r Q) : Post (fun w' _ (ρ : Env) σ' => ER c w' ρ σ' ∧ Eqx ix σ σ') c w W σ r Q := by
  cases r with
  | ok ρ h => exact fun σ' w' H' l x s => p σ' w' H' l x.1 s x.2
  | exc x h => exact p
  | bad => exact p
theorem set_ok {c : Ct} {w : Wd} {h h' : Hd} {H : Hp} {x y z : V} {dx dy dz : D} {Q : Hp → Prop} (s : SR c w h H) (rx : VR c w dx x) (ry : VR c w dy y) (rz : VR c w dz z) (e : setF dx dy dz h = some h') (q : ∀ H', SR c w h' H' → Q H') : rSetL x y z H Q := by
  cases dx with
  | ref r =>
    cases dy with
    | int k =>
      simp only [VR] at ry; subst ry
      simp only [setF] at e
      split at e
      · rename_i xs ex
        rw [Option.map_eq_some_iff] at e
        obtain ⟨j, ej, rfl⟩ := e
        obtain ⟨a, vs, rfl, hq, zr⟩ := lstOf_ok (xs := xs) s rx (by simp only [lstOf, ex])
        simp only [VR] at rx
        obtain ⟨a', ea, fa⟩ := rx
        cases ea
        refine ⟨a, vs, k, j, rfl, rfl, hq, by rw [← zr.len]; exact ej, q _ ?_⟩
        exact s.write ex (by intro z; cases z) fa ⟨_, upd_same, zr.set j rz⟩ (by intro z; cases z)
      · cases e
    | _ => simp [setF] at e
  | _ => simp [setF] at e
theorem g_sub {o i : Expr} {mo mi : ME} (ho : SE X W o mo) (hi : SE X W i mi) (ha : ∀ v, assign (.Subscript o i pos) X.env v = (do
      let ov ← holding [v] (eval o X.env)
      let iv ← holding [v, ov] (eval i X.env)
      standAt pos
      holding [v, ov, iv] (setItem ov iv v)
      release [v, ov, iv] []) := by intro _; rfl) : SG X W [] (.Subscript o i pos) (gSub mo mi) := PG.imp (pg_sub ho hi set_list ha) fun v σ H Q ⟨w, ρ, h, d, e, s, r, p⟩ => by
  refine ⟨w, ρ, h, e, s, (Post.bind (PostG.of p)).mono fun o H1 ⟨w1, h1, d1, l1, r1, s1, p1⟩ => ?_⟩
  refine ⟨w1, ρ, h1, e.le l1, s1, (Post.bind p1).mono fun i H2 ⟨w2, h2, d2, l2, r2, s2, p2⟩ => ?_⟩
  cases es : setF d1 d2 d h2 with
  | none => rw [es] at p2; exact p2.elim
  | some h3 =>
    rw [es] at p2
    exact set_ok s2 (r1.le l2) r2 (r.le (l1.trans l2)) es fun H3 s3 => p2 σ w2 H3 (.refl _) ⟨e.le (l1.trans l2), .refl⟩ s3
end
end DD
set_option Elab.async false
set_option linter.all false
set_option maxRecDepth 100000
set_option maxHeartbeats 4000000
namespace DD
open PySem PySem.Spec L2
/-! ## pure data, and its equality -/
mutual
def isPy : D → Bool
  | .non => true
  | .bl _ => true
  | .int _ => true
  | .str _ => true
  | .tup xs => isPys xs
  | .ktp xs => isPys xs
  | .lst xs => isPys xs
  | .rol xs => isPys xs
  | _ => false
def isPys : List D → Bool
  | [] => true
  | d :: ds => isPy d && isPys ds
end
mutual
def pyD : D → PyData
  | .non => .none
  | .bl b => .bool b
  | .int i => .int i
  | .str s => .str s
  | .tup xs => .tuple (pyDs xs)
  | .ktp xs => .tuple (pyDs xs)
  | .lst xs => .list (pyDs xs)
  | .rol xs => .list (pyDs xs)
  | _ => .none
def pyDs : List D → List PyData
  | [] => []
  | d :: ds => pyD d :: pyDs ds
end
mutual
theorem dp_of {c : Ct} {w : Wd} {h : Hd} {H : Hp} (s : SR c w h H) : ∀ {d : D} {v : V}, VR c w d v → isPy d = true → Dp c.K H v (pyD d)
  | .non, v, r, _ => by simp only [VR] at r; subst r; exact .non
  | .bl b, v, r, _ => by simp only [VR] at r; subst r; exact .bl b
  | .int i, v, r, _ => by simp only [VR] at r; subst r; exact .int i
  | .str x, v, r, _ => by simp only [VR] at r; subst r; exact .str x
  | .tup xs, v, r, e => by
    simp only [VR] at r
    obtain ⟨a, vs, rfl, q, z⟩ := r
    exact .tup (SqT_le s.F q) (dps_of s z (by simpa only [isPy] using e))
  | .lst xs, v, r, e => by
    simp only [VR] at r
    obtain ⟨a, vs, rfl, q, z⟩ := r
    exact .lst (SqL.of (s.F _ _ q)) (dps_of s z (by simpa only [isPy] using e))
  | .rol xs, v, r, e => by
    simp only [VR] at r
    obtain ⟨a, vs, rfl, q, z⟩ := r
    exact .lst (SqL_le s.F q) (dps_of s z (by simpa only [isPy] using e))
  | .dct _ _, _, _, e => by simp [isPy] at e
  | .dtt _ _, _, _, e => by simp [isPy] at e
  | .ktp xs, v, r, e => by
    simp only [VR] at r
    obtain ⟨a, vs, rfl, q, z⟩ := r
    exact .tup q.sq (dps_of s z (by simpa only [isPy] using e))
  | .ins _ _ _, _, _, e => by simp [isPy] at e
  | .ref _, _, _, e => by simp [isPy] at e
  | .glb _, _, _, e => by simp [isPy] at e
  | .ty _, _, _, e => by simp [isPy] at e
theorem dps_of {c : Ct} {w : Wd} {h : Hd} {H : Hp} (s : SR c w h H) : ∀ {ds : List D} {vs : List V}, VRs c w ds vs → isPys ds = true → DpAll c.K H vs (pyDs ds)
  | [], vs, r, _ => by simp only [VRs] at r; subst r; exact .nil
  | d :: ds, vs, r, e => by
    simp only [VRs] at r
    obtain ⟨v, us, rfl, r1, r2⟩ := r
    simp only [isPys, Bool.and_eq_true] at e
    exact .cons (dp_of s r1 e.1) (dps_of s r2 e.2)
end
def pyO (h : Hd) (d : D) : Option PyData := match d with
  | .ref r => match h[r]? with
    | some (.lst xs) => if isPys xs then some (.list (pyDs xs)) else none
    | _ => none
  | d => if isPy d then some (pyD d) else none
theorem pyO_ok {c : Ct} {w : Wd} {h : Hd} {H : Hp} {d : D} {v : V} {p : PyData} (s : SR c w h H) (r : VR c w d v) (e : pyO h d = some p) : Dp c.K H v p := by
  have gen : (if isPy d then some (pyD d) else none) = some p → Dp c.K H v p := fun e => by
    split at e
    · rename_i hp; cases e; exact dp_of s r hp
    · cases e
  cases d with
  | ref k =>
    simp only [pyO] at e
    split at e
    · rename_i xs ex
      split at e
      · rename_i hp
        cases e
        obtain ⟨a, vs, rfl, hq, zr⟩ := lstOf_ok (xs := xs) s r (by simp only [lstOf, ex])
        exact .lst (SqL.of hq) (dps_of s zr hp)
      · cases e
    · cases e
  | _ => exact gen e
def rEqM (K : PySem.W.Frag) (n : Bool) : R2 := fun x y H Q => ∃ d e, Dp K H x d ∧ Dp K H y e ∧ d.canLay0 = true ∧ e.canLay0 = true ∧ min d.depth e.depth ≤ 64 ∧ Q (.bl (if n then !PyData.eqv d e else PyData.eqv d e)) H
theorem op_eqM {X : Cx} (hu : X.A.units + 64 < cLine) : OpR X (compareOp .Eq) (rEqM X.K false) := by
  intro pins s σ H x y v u Q I rx ry h
  obtain ⟨d, e, hd, he, cd, ce, dm, q⟩ := h
  obtain ⟨as, r1⟩ := Dp.reads I d x v hd rx
  obtain ⟨bs, r2⟩ := Dp.reads I e y u he ry
  exact SeqAt.compareEq_reads r1 r2 cd ce (by omega) ⟨.bl _, H, I, rfl, q⟩
theorem op_neM {X : Cx} (hu : X.A.units + 64 < cLine) : OpR X (compareOp .NotEq) (rEqM X.K true) := by
  intro pins s σ H x y v u Q I rx ry h
  obtain ⟨d, e, hd, he, cd, ce, dm, q⟩ := h
  obtain ⟨as, r1⟩ := Dp.reads I d x v hd rx
  obtain ⟨bs, r2⟩ := Dp.reads I e y u he ry
  exact SeqAt.compareNe_reads r1 r2 cd ce (by omega) ⟨.bl _, H, I, rfl, q⟩
def scalV : D → Option V
  | .non => some .non
  | .bl b => some (.bl b)
  | .int i => some (.int i)
  | .str s => some (.str s)
  | _ => none
theorem scalV_ok {c : Ct} {w : Wd} {d : D} {v x : V} (e : scalV d = some x) (r : VR c w d v) : v = x := by
  cases d <;> simp only [scalV, Option.some.injEq, reduceCtorEq] at e <;> (subst e; simpa only [VR] using r)
def eqF (h : Hd) (d e : D) : Option Bool := match scalV d, scalV e with
  | some x, some y => if scal x y then some (decide (x = y)) else deepE
  | _, _ => deepE
where deepE : Option Bool := (pyO h d).bind fun a => (pyO h e).bind fun b => if a.canLay0 && b.canLay0 && decide (min a.depth b.depth ≤ 64) then some (PyData.eqv a b) else none
def rEqA (K : PySem.W.Frag) : R2 := fun x y H Q => rEq x y H Q ∨ rEqM K false x y H Q
def rNeA (K : PySem.W.Frag) : R2 := fun x y H Q => rNe x y H Q ∨ rEqM K true x y H Q
theorem op_eqA {X : Cx} (hu : X.A.units + 64 < cLine) : OpR X (compareOp .Eq) (rEqA X.K) := op_eq.or (op_eqM hu)
theorem op_neA {X : Cx} (hu : X.A.units + 64 < cLine) : OpR X (compareOp .NotEq) (rNeA X.K) := op_ne.or (op_neM hu)
theorem deepE_ok {c : Ct} {w : Wd} {h : Hd} {H : Hp} {x y : V} {dx dy : D} {b : Bool} (s : SR c w h H) (rx : VR c w dx x) (ry : VR c w dy y) (e : eqF.deepE h dx dy = some b) :
    ∃ d e, Dp c.K H x d ∧ Dp c.K H y e ∧ d.canLay0 = true ∧ e.canLay0 = true ∧ min d.depth e.depth ≤ 64 ∧ PyData.eqv d e = b := by
  unfold eqF.deepE at e
  rw [Option.bind_eq_some_iff] at e
  obtain ⟨a, ea, e⟩ := e
  rw [Option.bind_eq_some_iff] at e
  obtain ⟨b', eb, e⟩ := e
  split at e
  · rename_i hc
    simp only [Bool.and_eq_true, decide_eq_true_eq] at hc
    cases e
    exact ⟨a, b', pyO_ok s rx ea, pyO_ok s ry eb, hc.1.1, hc.1.2, hc.2, rfl⟩
  · cases e
theorem eqF_ok {c : Ct} {w : Wd} {h : Hd} {H : Hp} {x y : V} {dx dy : D} {b : Bool} (s : SR c w h H) (rx : VR c w dx x) (ry : VR c w dy y) (e : eqF h dx dy = some b) :
    (scal x y = true ∧ decide (x = y) = b) ∨ ∃ d e, Dp c.K H x d ∧ Dp c.K H y e ∧ d.canLay0 = true ∧ e.canLay0 = true ∧ min d.depth e.depth ≤ 64 ∧ PyData.eqv d e = b := by
  unfold eqF at e
  split at e
  · rename_i u v e1 e2
    split at e
    · rename_i hs
      cases e
      rw [scalV_ok e1 rx, scalV_ok e2 ry]
      exact .inl ⟨hs, rfl⟩
    · exact .inr (deepE_ok s rx ry e)
  · exact .inr (deepE_ok s rx ry e)
def cEq (d e : D) (h : Hd) : Res Bool := optR (eqF h d e) h
def cNe (d e : D) (h : Hd) : Res Bool := optR ((eqF h d e).map (!·)) h
theorem s_eq {c : Ct} : OpB c (rEqA c.K) cEq := fun {w W σ h H x y dx dy Q} s rx ry p => by
  obtain ⟨b, eb, p⟩ := optR_post p
  rcases eqF_ok s rx ry eb with ⟨hs, e⟩ | ⟨d, e, a1, a2, a3, a4, a5, a6⟩
  · exact .inl ⟨hs, b, by rw [e], p.ret rfl s⟩
  · exact .inr ⟨d, e, a1, a2, a3, a4, a5, b, by simp only [Bool.false_eq_true, if_false, a6], p.ret rfl s⟩
theorem s_ne {c : Ct} : OpB c (rNeA c.K) cNe := fun {w W σ h H x y dx dy Q} s rx ry p => by
  obtain ⟨b, eb, p⟩ := optR_post p
  rw [Option.map_eq_some_iff] at eb
  obtain ⟨b', eb, rfl⟩ := eb
  rcases eqF_ok s rx ry eb with ⟨hs, e⟩ | ⟨d, e, a1, a2, a3, a4, a5, a6⟩
  · exact .inl ⟨hs, _, by rw [e], p.ret rfl s⟩
  · exact .inr ⟨d, e, a1, a2, a3, a4, a5, _, by simp only [if_true, a6], p.ret rfl s⟩
/-! order, is None, in -/
def cLt (d e : D) (h : Hd) : Res Bool := match d, e with
  | .int i, .int j => .ok (decide (i < j)) h
  | .str a, .str b => .ok (decide (a.cps.toList < b.cps.toList)) h
  | _, _ => .bad
def cLe (d e : D) (h : Hd) : Res Bool := match d, e with
  | .int i, .int j => .ok (decide (i ≤ j)) h
  | _, _ => .bad
def cGt (d e : D) (h : Hd) : Res Bool := match d, e with
  | .int i, .int j => .ok (decide (j < i)) h
  | _, _ => .bad
def cGe (d e : D) (h : Hd) : Res Bool := match d, e with
  | .int i, .int j => .ok (decide (j ≤ i)) h
  | _, _ => .bad
def rLtA : R2 := fun x y H Q => rI0 (fun i j => .bl (decide (i < j))) x y H Q ∨ ∃ i j, x = .str i ∧ y = .str j ∧ Q (.bl (decide (i.cps.toList < j.cps.toList))) H
theorem op_ltA {X : Cx} : OpR X (compareOp .Lt) rLtA := op_lt.or op_lt_str
theorem s_lt {c : Ct} : OpB c rLtA cLt := fun {w W σ h H x y dx dy Q} s rx ry p => by
  cases dx with
  | int i =>
    cases dy with
    | int j => simp only [VR] at rx ry; exact .inl ⟨i, j, rx, ry, _, rfl, p.ret rfl s⟩
    | _ => exact p.elim
  | str i =>
    cases dy with
    | str j => simp only [VR] at rx ry; exact .inr ⟨i, j, rx, ry, _, rfl, p.ret rfl s⟩
    | _ => exact p.elim
  | _ => exact p.elim
theorem s_le {c : Ct} : OpB c (rI0 fun i j => .bl (decide (i ≤ j))) cLe := fun {w W σ h H x y dx dy Q} s rx ry p => by
  cases dx with
  | int i =>
    cases dy with
    | int j => simp only [VR] at rx ry; exact ⟨i, j, rx, ry, _, rfl, p.ret rfl s⟩
    | _ => exact p.elim
  | _ => exact p.elim
theorem s_gt {c : Ct} : OpB c (rI0 fun i j => .bl (decide (j < i))) cGt := fun {w W σ h H x y dx dy Q} s rx ry p => by
  cases dx with
  | int i =>
    cases dy with
    | int j => simp only [VR] at rx ry; exact ⟨i, j, rx, ry, _, rfl, p.ret rfl s⟩
    | _ => exact p.elim
  | _ => exact p.elim
theorem s_ge {c : Ct} : OpB c (rI0 fun i j => .bl (decide (j ≤ i))) cGe := fun {w W σ h H x y dx dy Q} s rx ry p => by
  cases dx with
  | int i =>
    cases dy with
    | int j => simp only [VR] at rx ry; exact ⟨i, j, rx, ry, _, rfl, p.ret rfl s⟩
    | _ => exact p.elim
  | _ => exact p.elim
def isNon : D → Bool
  | .non => true
  | _ => false
theorem isNon_ok {c : Ct} {w : Wd} {d : D} {v : V} (r : VR c w d v) : isNon d = decide (v = .non) := by
  cases d <;> simp only [VR] at r <;> first | (subst r; rfl) | (obtain ⟨_, _, rfl, _⟩ := r; rfl) | (obtain ⟨_, rfl, _⟩ := r; rfl) | (obtain ⟨_, _, _, rfl, _⟩ := r; rfl) | (obtain ⟨_, _, _, _, rfl, _⟩ := r; rfl)
def cIs (d e : D) (h : Hd) : Res Bool := match e with
  | .non => .ok (isNon d) h
  | _ => .bad
def cIsNot (d e : D) (h : Hd) : Res Bool := match e with
  | .non => .ok (!isNon d) h
  | _ => .bad
theorem s_is {c : Ct} : OpB c (fun x y H Q => y = .non ∧ Q (.bl (decide (x = .non))) H) cIs := fun {w W σ h H x y dx dy Q} s rx ry p => by
  cases dy with
  | non => simp only [VR] at ry; exact ⟨ry, _, by rw [← isNon_ok rx], p.ret rfl s⟩
  | _ => exact p.elim
theorem s_isnot {c : Ct} : OpB c (fun x y H Q => y = .non ∧ Q (.bl (!decide (x = .non))) H) cIsNot := fun {w W σ h H x y dx dy Q} s rx ry p => by
  cases dy with
  | non => simp only [VR] at ry; exact ⟨ry, _, by rw [← isNon_ok rx], p.ret rfl s⟩
  | _ => exact p.elim
/-! in: a sign in a text, a text in a text, data in a list or a tuple of flat things -/
def inT (a b : Str) : Bool := if h : a.cps.size = 1 then decide (a.cps[0] ∈ b.cps.toList) else !(Builtin.Str.occurrences b a 0 b.length 1).isEmpty
def eqvIn (p : PyData) (ds : List PyData) : Bool := ds.any fun z => PyData.eqv z p
def flatD : D → Bool
  | .non => true
  | .bl _ => true
  | .int _ => true
  | .str _ => true
  | _ => false
def eqFlat : D → D → Bool
  | .non, .non => true
  | .bl a, .bl b => a == b
  | .bl a, .int b => (if a then 1 else 0) == b
  | .int a, .bl b => a == (if b then 1 else 0)
  | .int a, .int b => a == b
  | .str a, .str b => a == b
  | _, _ => false
theorem flat_ok {c : Ct} {w : Wd} {d : D} {v : V} (r : VR c w d v) (f : flatD d = true) : flatV v = true ∧ scalV d = some v := by
  cases d <;> simp only [flatD, reduceCtorEq] at f <;> (simp only [VR] at r; subst r; exact ⟨rfl, rfl⟩)
theorem eqFlat_ok {c : Ct} {w : Wd} {d e : D} {v u : V} (r : VR c w d v) (q : VR c w e u) (f : flatD d = true) (g : flatD e = true) : eqFlat d e = eqV v u := by
  cases d <;> simp only [flatD, reduceCtorEq] at f <;> cases e <;> simp only [flatD, reduceCtorEq] at g <;> (simp only [VR] at r q; subst r; subst q; rfl)
theorem flats_ok {c : Ct} {w : Wd} : ∀ {ds : List D} {vs : List V}, VRs c w ds vs → ds.all flatD = true → vs.all flatV = true
  | [], vs, r, _ => by simp only [VRs] at r; subst r; rfl
  | d :: ds, vs, r, f => by
    simp only [VRs] at r
    obtain ⟨v, us, rfl, r1, r2⟩ := r
    simp only [List.all_cons, Bool.and_eq_true] at f ⊢
    exact ⟨(flat_ok r1 f.1).1, flats_ok r2 f.2⟩
def inFlat (x : D) (xs : List D) : Bool := xs.any fun y => eqFlat y x
theorem inFlat_ok {c : Ct} {w : Wd} {x : D} {v : V} (rx : VR c w x v) (fx : flatD x = true) : ∀ {ds : List D} {vs : List V}, VRs c w ds vs → ds.all flatD = true → inFlat x ds = inV v vs
  | [], vs, r, _ => by simp only [VRs] at r; subst r; rfl
  | d :: ds, vs, r, f => by
    simp only [VRs] at r
    obtain ⟨u, us, rfl, r1, r2⟩ := r
    simp only [List.all_cons, Bool.and_eq_true] at f
    have ih := inFlat_ok rx fx r2 f.2
    unfold inFlat inV at ih ⊢
    rw [List.any_cons, List.any_cons, ih, eqFlat_ok r1 rx f.1 fx]
def inDeep (h : Hd) (x y : D) : Option Bool := (lstOf h y).bind fun zs => if isPy x && isPys zs && (pyD x).canLay0 && PyData.canLayAll0 (pyDs zs) && decide ((pyD x).depth ≤ 64) && decide (PyData.depthAll (pyDs zs) < 64) then some (eqvIn (pyD x) (pyDs zs)) else none
def inSeq (h : Hd) (x y : D) : Option Bool := (seqOf h y).bind fun ys => if flatD x && ys.all flatD then some (inFlat x ys) else inDeep h x y
def inF (h : Hd) (x y : D) : Option Bool := match x, y with
  | .str a, .str b => some (inT a b)
  | x, y => inSeq h x y
def rInA (K : PySem.W.Frag) : R2 := fun x y H Q => (∃ (c : Nat) (z : Str), x = .str ⟨#[c]⟩ ∧ y = .str z ∧ Q (.bl (decide (c ∈ z.cps.toList))) H) ∨ (∃ i j, x = .str i ∧ y = .str j ∧ Q (.bl (!(Builtin.Str.occurrences j i 0 j.length 1).isEmpty)) H) ∨ rIn K false x y H Q ∨ rInD K x y H Q
def rNotInA (K : PySem.W.Frag) : R2 := fun x y H Q => (∃ (c : Nat) (z : Str), x = .str ⟨#[c]⟩ ∧ y = .str z ∧ Q (.bl (!decide (c ∈ z.cps.toList))) H) ∨ (∃ i j, x = .str i ∧ y = .str j ∧ Q (.bl (!(!(Builtin.Str.occurrences j i 0 j.length 1).isEmpty))) H) ∨ rIn K true x y H Q ∨ rNotInD K x y H Q
theorem op_inA {X : Cx} (hu : X.A.units + 65 < cLine) : OpR X (compareOp .In) (rInA X.K) := op_in_sign.or (op_in_str.or (op_in_seq.or (op_inD hu)))
theorem op_notInA {X : Cx} (hu : X.A.units + 65 < cLine) : OpR X (compareOp .NotIn) (rNotInA X.K) := op_notIn_sign.or (L2.op_notIn_str.or (op_notIn_seq.or (op_notInD hu)))
theorem one_sign {a : Str} (h : a.cps.size = 1) : a = ⟨#[a.cps[0]]⟩ := by
  obtain ⟨cps⟩ := a
  have : cps = #[cps[0]] := by
    apply Array.ext
    · simpa using h
    · intro i h1 h2
      have h1' : i < cps.size := h1
      have hs : cps.size = 1 := h
      have : i = 0 := by omega
      subst this; rfl
  exact congrArg Str.mk this
theorem inF_ok {c : Ct} {w : Wd} {h : Hd} {H : Hp} {x y : V} {dx dy : D} {b : Bool} (s : SR c w h H) (rx : VR c w dx x) (ry : VR c w dy y) (e : inF h dx dy = some b) :
    (∃ (c : Nat) (z : Str), x = .str ⟨#[c]⟩ ∧ y = .str z ∧ decide (c ∈ z.cps.toList) = b) ∨ (∃ i j, x = .str i ∧ y = .str j ∧ (!(Builtin.Str.occurrences j i 0 j.length 1).isEmpty) = b) ∨
      (∃ p xs, y = .ref p ∧ (SqL c.K H p xs ∨ SqT c.K H p xs) ∧ flatV x = true ∧ xs.all flatV = true ∧ inV x xs = b) ∨
      (∃ d ds, Dp c.K H x d ∧ Dp c.K H y (.list ds) ∧ SeqAt.shaped d = true ∧ SeqAt.shaped (.list ds) = true ∧ (ds.any fun z => PyData.eqv z d) = b) := by
  have gen : inSeq h dx dy = some b →
      (∃ p xs, y = .ref p ∧ (SqL c.K H p xs ∨ SqT c.K H p xs) ∧ flatV x = true ∧ xs.all flatV = true ∧ inV x xs = b) ∨
      (∃ d ds, Dp c.K H x d ∧ Dp c.K H y (.list ds) ∧ SeqAt.shaped d = true ∧ SeqAt.shaped (.list ds) = true ∧ (ds.any fun z => PyData.eqv z d) = b) := fun e => by
    unfold inSeq at e
    rw [Option.bind_eq_some_iff] at e
    obtain ⟨ys, ey, e⟩ := e
    obtain ⟨a, vs, rfl, hq, r⟩ := seqOf_ok s ry ey
    split at e
    · rename_i hf
      simp only [Bool.and_eq_true] at hf
      cases e
      exact .inl ⟨a, vs, rfl, hq, (flat_ok rx hf.1).1, flats_ok r hf.2, (inFlat_ok rx hf.1 r hf.2).symm⟩
    · unfold inDeep at e
      rw [Option.bind_eq_some_iff] at e
      obtain ⟨zs, el, e⟩ := e
      split at e
      · rename_i hc
        simp only [Bool.and_eq_true, decide_eq_true_eq] at hc
        cases e
        obtain ⟨a2, vs2, ea2, hq2, r2⟩ := lstOf_ok s ry el
        cases ea2
        refine .inr ⟨pyD dx, pyDs zs, dp_of s rx hc.1.1.1.1.1, .lst (SqL.of hq2) (dps_of s r2 hc.1.1.1.1.2), ?_, ?_, rfl⟩
        · unfold SeqAt.shaped; rw [hc.1.1.1.2, Bool.true_and]; exact decide_eq_true hc.1.2
        · unfold SeqAt.shaped
          have h1 : (PyData.list (pyDs zs)).canLay0 = true := by simp only [PyData.canLay0]; exact hc.1.1.2
          rw [h1, Bool.true_and]
          refine decide_eq_true ?_
          simp only [PyData.depth]
          omega
      · cases e
  cases dx with
  | str u =>
    cases dy with
    | str z =>
      simp only [VR] at rx ry; subst rx; subst ry
      simp only [inF, Option.some.injEq] at e; subst e
      unfold inT
      by_cases hz : u.cps.size = 1
      · rw [dif_pos hz]
        exact .inl ⟨u.cps[0], z, congrArg V.str (one_sign hz), rfl, rfl⟩
      · rw [dif_neg hz]
        exact .inr (.inl ⟨u, z, rfl, rfl, rfl⟩)
    | _ => exact .inr (.inr (gen e))
  | _ => exact .inr (.inr (gen e))
def cIn (d e : D) (h : Hd) : Res Bool := optR (inF h d e) h
def cNotIn (d e : D) (h : Hd) : Res Bool := optR ((inF h d e).map (!·)) h
theorem s_in {c : Ct} : OpB c (rInA c.K) cIn := fun {w W σ h H x y dx dy Q} s rx ry p => by
  obtain ⟨b, eb, p⟩ := optR_post p
  rcases inF_ok s rx ry eb with ⟨cc, z, a1, a2, a3⟩ | ⟨i, j, a1, a2, a3⟩ | ⟨q, xs, a1, a2, a3, a4, a5⟩ | ⟨d, ds, a1, a2, a3, a4, a5⟩
  · exact .inl ⟨cc, z, a1, a2, b, by rw [a3], p.ret rfl s⟩
  · exact .inr (.inl ⟨i, j, a1, a2, b, by rw [a3], p.ret rfl s⟩)
  · exact .inr (.inr (.inl ⟨q, xs, a1, a2, a3, a4, b, by simp only [Bool.false_eq_true, if_false, a5], p.ret rfl s⟩))
  · exact .inr (.inr (.inr ⟨d, ds, a1, a2, a3, a4, b, by rw [a5], p.ret rfl s⟩))
theorem s_notin {c : Ct} : OpB c (rNotInA c.K) cNotIn := fun {w W σ h H x y dx dy Q} s rx ry p => by
  obtain ⟨b, eb, p⟩ := optR_post p
  rw [Option.map_eq_some_iff] at eb
  obtain ⟨b', eb, rfl⟩ := eb
  rcases inF_ok s rx ry eb with ⟨cc, z, a1, a2, a3⟩ | ⟨i, j, a1, a2, a3⟩ | ⟨q, xs, a1, a2, a3, a4, a5⟩ | ⟨d, ds, a1, a2, a3, a4, a5⟩
  · exact .inl ⟨cc, z, a1, a2, _, by rw [a3], p.ret rfl s⟩
  · exact .inr (.inl ⟨i, j, a1, a2, _, by rw [a3], p.ret rfl s⟩)
  · exact .inr (.inr (.inl ⟨q, xs, a1, a2, a3, a4, _, by simp only [if_true, a5], p.ret rfl s⟩))
  · exact .inr (.inr (.inr ⟨d, ds, a1, a2, a3, a4, _, by rw [a5], p.ret rfl s⟩))
end DD
set_option Elab.async false
set_option linter.all false
set_option maxRecDepth 100000
set_option maxHeartbeats 4000000
/-! sets of ints and texts, with what a walk over them wants (the table rises, it can be walked) -/
namespace DD
open PySem PySem.Spec PyProof.Rows L2
def kM : Value → Key
  | .int i _ => .inl i
  | .str x _ => .inr x
  | _ => .inl 0
abbrev kE (e : Int × Value) : Key := kM e.2
def GoodM (w : World) (e : Int × Value) : Prop := keyIs (kE e) e.2 = true ∧ e.1 = keyH w (kE e)
theorem kM_of {k : Key} {v : Value} (h : keyIs k v = true) : kM v = k := by
  rcases keyIs_shape h with ⟨i, t, rfl, rfl⟩ | ⟨x, t, rfl, rfl⟩ <;> rfl
theorem keyIs_scan {k : Key} {v : Value} (h : keyIs k v = true) : v.scannable = true := by
  rcases keyIs_shape h with ⟨i, t, rfl, rfl⟩ | ⟨x, t, rfl, rfl⟩ <;> rfl
theorem goodM_of {w : World} {k : Key} {v : Value} (h : keyIs k v = true) : GoodM w (keyH w k, v) := by
  have e : kE (keyH w k, v) = k := kM_of h
  exact ⟨by rw [e]; exact h, by rw [e]⟩
def kIn (l : List Key) (j : Key) : Bool := l.any fun k => decide (k = j)
theorem kIn_iff {l : List Key} {j : Key} : kIn l j = true ↔ j ∈ l := by
  unfold kIn
  rw [List.any_eq_true]
  exact ⟨fun ⟨x, h, e⟩ => (of_decide_eq_true e) ▸ h, fun h => ⟨j, h, decide_eq_true rfl⟩⟩
def SetM (w : World) (h : Heap) (a : Addr) (S : Key → Bool) (n : Nat) : Prop :=
  ∃ o es ep t, (h.get? a = some o ∧ o.ExactSet ∧ o.data = .set es ep t) ∧ ((∀ e ∈ es.toList, GoodM w e) ∧ (es.toList.map kE).Nodup ∧ ∀ k, S k = true ↔ k ∈ es.toList.map kE) ∧
    (es.size < scanBound ∧ t.fits es.size = true ∧ es.size = n) ∧ Ris t.place.toList ∧ (w.params.followText "set-order" = true ∨ t.led = true)
section
variable {P : Program} {w : World} {h h' : Heap} {a : Addr} {S : Key → Bool} {n : Nat}
theorem SetM.at (R : SetM w h a S n) (k : ∀ o, h.get? a = some o → h'.get? a = some o) : SetM w h' a S n := by
  obtain ⟨o, es, ep, t, ⟨q1, q2, q3⟩, r⟩ := R
  exact ⟨o, es, ep, t, ⟨k o q1, q2, q3⟩, r⟩
theorem SetM.congr {S' : Key → Bool} (R : SetM w h a S n) (e : ∀ k, S' k = S k) : SetM w h a S' n := (funext e : S' = S) ▸ R
theorem goodM_elems {l : List (Int × Value)} (g : ∀ e ∈ l, GoodM w e) : ElemsOf (mixKind P w) l := fun e he => ⟨⟨kE e, (g e he).1, (g e he).2⟩, keyIs_scan (g e he).1⟩
theorem goodM_mem {l : List (Int × Value)} (g : ∀ e ∈ l, GoodM w e) (k : Key) : k ∈ l.map kE ↔ ∃ e ∈ l, (mixKind P w).is k e.2 = true := by
  rw [List.mem_map]
  refine ⟨?_, ?_⟩
  · rintro ⟨e, he, rfl⟩; exact ⟨e, he, (g e he).1⟩
  · rintro ⟨e, he, q⟩; exact ⟨e, he, kM_of q⟩
theorem SetM.new {ns : List Key} (ho : h.get? a = some { cls := .type "set", dict := none, data := .set #[] 0 (.fresh 0 0 (!w.params.followText "set-order")) }) : SetM w h a (kIn (ns.take 0)) 0 := by
  refine ⟨_, #[], 0, _, ⟨ho, ⟨rfl, rfl, rfl⟩, rfl⟩, ⟨fun e he => by simp at he, by simp, fun k => by simp [kIn]⟩, ⟨by decide, rfl, rfl⟩, List.Pairwise.nil, ?_⟩
  show _ ∨ (!w.params.followText "set-order") = true
  cases w.params.followText "set-order" <;> simp
end
section
variable {P : Program} {w : World} {A : Around} {E : Value → Shared → Prop} {s : Shared} {a : Addr} {S : Key → Bool} {n : Nat}
theorem setM_tail {g : Bool → Sem Unit} (hg : ∀ (b : Bool) (s₁ : Shared) (Q' : Unit → Shared → Prop), Q' () s₁ → wpAny (model P w) A (g b) Q' E s₁)
    {o : Obj} {es : Array (Int × Value)} {ep : Nat} {t : SetTable} (st : s.heap.get? a = some o ∧ o.ExactSet ∧ o.data = .set es ep t)
    {ez : Array (Int × Value)} {u : SetTable} {S' : Key → Bool} (gd : (∀ e ∈ ez.toList, GoodM w e) ∧ (ez.toList.map kE).Nodup ∧ ∀ k, S' k = true ↔ k ∈ ez.toList.map kE)
    (hb : ez.size < scanBound) (hf : u.fits ez.size = true) (hr : Ris u.place.toList) (hl : w.params.followText "set-order" = true ∨ u.led = true) {dm : Bool} {R : Option Bool → Shared → Prop}
    (hR : ∀ h', Heap.SameBut a s.heap h' → SetM w h' a S' ez.size → R (some true) { s with heap := h' }) :
    wpAny (model P w) A (do
        storeSet a ez u
        if (!dm && u.tooFull) = true then do
            g (relayAll u ez (SetTable.grown ez.size)).2.2
            storeSet a (relayAll u ez (SetTable.grown ez.size)).1 (relayAll u ez (SetTable.grown ez.size)).2.1
            pure (some true)
          else pure (some true)) R E s := by
  obtain ⟨so, sx, sd⟩ := st
  refine wpAny_bind (wpAny_storeSet_of so sd ?_ (fits_of_scanBound hb))
  have so' := store_at (es' := ez) (t' := u) so sd
  have sb := Heap.SameBut.update s.heap a (Obj.putSet ez u)
  by_cases hc : (!dm && u.tooFull) = true
  · rw [if_pos hc]
    have z1 := relayAll_perm u ez (SetTable.grown ez.size)
    have z2 := relayAll_fits u ez (SetTable.grown ez.size)
    have z3 := relayAll_ris u ez (SetTable.grown ez.size)
    have z4 := relayAll_led u ez (SetTable.grown ez.size)
    generalize relayAll u ez (SetTable.grown ez.size) = Z at z1 z2 z3 z4 ⊢
    obtain ⟨e2, u3, gave⟩ := Z
    dsimp only at z1 z2 z3 z4 ⊢
    have hsz : e2.size = ez.size := by rw [← Array.length_toList, z1.length_eq, Array.length_toList]
    have hbz : e2.size < scanBound := hsz ▸ hb
    refine wpAny_bind (hg _ _ _ (wpAny_bind (wpAny_storeSet_of so' rfl ?_ (fits_of_scanBound hbz))))
    refine wpAny_pure (hR _ (sb.trans (Heap.SameBut.update _ a _)) ?_)
    exact ⟨_, e2, _, u3, ⟨store_at (es' := e2) (t' := u3) so' rfl, sx, rfl⟩, ⟨fun e he => gd.1 e (z1.mem_iff.mp he), (z1.map kE).nodup_iff.mpr gd.2.1, fun k => (gd.2.2 k).trans (z1.map kE).mem_iff.symm⟩, ⟨hbz, z2, hsz⟩, z3, hl.imp id fun q => z4.trans q⟩
  · rw [if_neg hc]
    exact wpAny_pure (hR _ sb ⟨_, ez, _, u, ⟨so', sx, rfl⟩, gd, ⟨hb, hf, rfl⟩, hr, hl⟩)
theorem setM_add {k : Key} {v : Value} {Q : Bool → Shared → Prop} (hk : keyIs k v = true) (R : SetM w s.heap a S n) (room : n + 1 < scanBound)
    (hQ : ∀ h', Heap.SameBut a s.heap h' → SetM w h' a (fun j => S j || decide (j = k)) (if S k = true then n else n + 1) → Q (!S k) { s with heap := h' }) :
    wpAny (model P w) A (setAddHashed a v ((mixKind P w).hash k)) Q E s := by
  obtain ⟨o, es, ep, t, st, gd, ⟨hb, hf, hn⟩, hr, hl⟩ := R
  have hkey : (mixKind P w).is k v = true := hk
  have hsc : v.scannable = true := keyIs_scan hk
  have hel : ElemsOf (mixKind P w) es.toList := goodM_elems gd.1
  unfold setAddHashed setAddHashedIn
  refine wpAny_holding (wpAny_bind (wpAny_setState_of st.1 st.2.2 hf ?_))
  dsimp only
  rw [byScan_of hsc hb hel, if_pos rfl]
  unfold setAddByScan
  refine wpAny_bind (wpAny_bind (wpAny_rule (wpAny_bind (wpAny_setScan_of hkey st.1 st.2.2 hf hel ?_))))
  cases hfi : List.findIdx? (fun e => (mixKind P w).is k e.2) es.toList with
  | some j =>
    dsimp only
    obtain ⟨hj, pj, _⟩ := List.findIdx?_eq_some_iff_getElem.mp hfi
    have hSk : S k = true := (gd.2.2 k).2 ((goodM_mem (P := P) gd.1 k).2 ⟨es.toList[j], List.getElem_mem hj, pj⟩)
    have q := hQ s.heap (Heap.SameBut.refl a s.heap) ⟨o, es, ep, t, st, ⟨gd.1, gd.2.1, fun i => by
      rw [Bool.or_eq_true, decide_eq_true_eq, ← gd.2.2 i]
      exact ⟨fun z => z.elim id (fun e => e ▸ hSk), .inl⟩⟩, ⟨hb, hf, (if_pos hSk).symm ▸ hn⟩, hr, hl⟩
    rw [hSk] at q
    exact wpAny_pure (wpAny_pure q)
  | none =>
    dsimp only
    have hnk : k ∉ es.toList.map kE := fun z => by
      obtain ⟨e, he, q⟩ := (goodM_mem (P := P) gd.1 k).1 z
      exact absurd q (by simpa using List.findIdx?_eq_none_iff.mp hfi e he)
    have hSk : S k = false := by
      cases q : S k with
      | false => rfl
      | true => exact absurd ((gd.2.2 k).1 q) hnk
    have hgw : ∀ (b : Bool) {s₁ : Shared} {Q' : Unit → Shared → Prop}, Q' () s₁ → wpAny (model P w) A (match b with | true => rule "set.scan.the-table-gave-way" | false => pure ()) Q' E s₁ :=
      fun b _ _ q => by cases b <;> first | exact wpAny_pure q | exact wpAny_rule q
    have y1 := layNew_perm t es ((mixKind P w).hash k) v
    have y2 := layNew_fits t es ((mixKind P w).hash k) v
    have y3 := layNew_ris t es ((mixKind P w).hash k) v hr
    have y4 := layNew_led t es ((mixKind P w).hash k) v
    generalize layNew t es ((mixKind P w).hash k) v = Z at y1 y2 y3 y4 ⊢
    obtain ⟨ez, u, dm, gave⟩ := Z
    dsimp only at y1 y2 y3 y4 ⊢
    rw [Array.toList_push] at y1
    have pc : ez.toList.Perm ((keyH w k, v) :: es.toList) := y1.trans (List.perm_append_singleton _ _)
    have ek : kE (keyH w k, v) = k := kM_of hk
    have pk : (ez.toList.map kE).Perm (k :: es.toList.map kE) := by
      have := pc.map kE
      rwa [List.map_cons, ek] at this
    have gz : (∀ e ∈ ez.toList, GoodM w e) ∧ (ez.toList.map kE).Nodup ∧ ∀ i, (S i || decide (i = k)) = true ↔ i ∈ ez.toList.map kE := by
      refine ⟨fun e he => ?_, pk.nodup_iff.mpr (List.nodup_cons.mpr ⟨hnk, gd.2.1⟩), fun i => ?_⟩
      · rcases List.mem_cons.mp (pc.mem_iff.mp he) with z | z
        · exact z ▸ goodM_of hk
        · exact gd.1 e z
      · rw [Bool.or_eq_true, decide_eq_true_eq, gd.2.2 i, pk.mem_iff, List.mem_cons]
        exact Or.comm
    have hsz : ez.size = n + 1 := by rw [← Array.length_toList, pc.length_eq, List.length_cons, Array.length_toList, hn]
    have hbz : ez.size < scanBound := hsz ▸ room
    have hlz : w.params.followText "set-order" = true ∨ u.led = true := hl.imp id fun q => y4.trans q
    have fin : ∀ h', Heap.SameBut a s.heap h' → SetM w h' a (fun j => S j || decide (j = k)) ez.size → Q true { s with heap := h' } := fun h' sb r => by
      have q := hQ h' sb
      rw [hSk] at q
      exact q (hsz ▸ r)
    refine wpAny_bind (hgw _ ?_)
    split
    · refine wpAny_bind ?_
      rw [hashByValue_scannable 8 hsc]
      refine wpAny_pure (setM_tail ?_ st gz hbz ?_ ?_ ?_ ?_)
      · exact fun b _ _ q => by cases b <;> first | exact wpAny_pure q | exact wpAny_rule q
      · first | exact y2 | (split <;> first | exact y2 | exact SetTable.fits_plain_off y2)
      · first | exact y3 | (split <;> exact y3)
      · first | exact hlz | (split <;> exact hlz)
      · exact fun h' sb r => wpAny_pure (fin h' sb r)
    · refine wpAny_bind (wpAny_pure ?_)
      rw [if_pos rfl]
      exact setM_tail (fun b _ _ q => by cases b <;> first | exact wpAny_pure q | exact wpAny_rule q) st gz hbz y2 y3 hlz fun h' sb r => wpAny_pure (fin h' sb r)

theorem setM_update {I : Addr} {fp wr : List Addr} {G : Array GenState → Array GenState → Prop} {n : Nat} {Pv : Nat → Value → Prop} {St : Nat → Shared → Prop} {R : Result → Shared → Prop}
    (W : WalksS P w A.in1 I fp wr G n Pv St) (Z : Addr) (hZ : Z ∉ fp) (ks : List Key) (hn : n = ks.length) (hb : ks.length + 1 < scanBound) (hval : ∀ (i : Nat) (v : Value), Pv i v → ∃ k, ks[i]? = some k ∧ keyIs k v = true) :
    ∀ (m i : Nat) (s : Shared), n - i = m → i ≤ n → St i s → (∃ c, c ≤ i ∧ SetM w s.heap Z (kIn (ks.take i)) c) →
      (∀ s' c, Moved (Z :: wr) G s s' → c ≤ n → SetM w s'.heap Z (kIn ks) c → R (.ok (.ret .none)) s') →
      codeAny (model P w) A (.builtin "set.update.loop" ⟨[.ref Z, .ref I], []⟩) R s := by
  have hZw : Z ∉ wr := fun q => hZ (W.sub _ q)
  have hsub : ∀ b ∈ wr, b ∈ Z :: wr := fun b q => List.mem_cons_of_mem _ q
  intro m
  induction m with
  | zero =>
    rintro i s hm hi hst ⟨c, hc, hS⟩ hR
    obtain rfl : i = n := by omega
    refine codeAny_builtin F.entry_set_update_loop ?_
    rw [Around.under_plainId F.plain_set_update_loop _]
    show wpAny _ A.in1 (pyNext (.ref I) >>= _) _ _ s
    refine wpAny_bind (W.done s _ _ hst fun s' mv => ?_)
    show wpAny _ A.in1 (ret Value.none) _ _ s'
    rw [List.take_of_length_le (by omega)] at hS
    exact wpAny_pure (hR s' c (mv.mono hsub) hc (hS.at fun o e => mv.heap Z o hZw e))
  | succ m ih =>
    rintro i s hm hi hst ⟨c, hc, hS⟩ hR
    have hlt : i < n := by omega
    refine codeAny_builtin F.entry_set_update_loop ?_
    rw [Around.under_plainId F.plain_set_update_loop _]
    show wpAny _ A.in1 (pyNext (.ref I) >>= _) _ _ s
    refine wpAny_bind (W.item i s _ _ hlt hst fun v s' hP hst' mv => ?_)
    obtain ⟨k, ek, hk⟩ := hval i v hP
    have hS' : SetM w s'.heap Z (kIn (ks.take i)) c := hS.at fun o e => mv.heap Z o hZw e
    show wpAny _ A.in1 (holding [v] (setAdd Z v) >>= _) _ _ s'
    refine wpAny_bind (wpAny_holding ?_)
    unfold setAdd
    refine wpAny_holding (wpAny_bind ((mixKind P w).pyHash (k := k) hk ?_))
    refine setM_add (s := { s' with toks := s'.toks + 1 }) hk hS' (by omega) fun h' sb hS2 => ?_
    have hS3 : SetM w h' Z (kIn (ks.take (i + 1))) (if kIn (ks.take i) k = true then c else c + 1) := hS2.congr fun j => by
      rw [List.take_add_one, ek]
      simp [kIn, List.any_append, eq_comm]
    have hc3 : (if kIn (ks.take i) k = true then c else c + 1) ≤ i + 1 := by split <;> omega
    refine wpAny_pure ⟨plainId_quiet F.plain_set_update_loop _, ih (i + 1) _ (by omega) hlt (W.frame _ s' _ _ hst' (Nat.le_succ _) fun b hb o e => ?_) ⟨_, hc3, hS3⟩ fun s2 c2 mv2 hc2 hR2 => ?_⟩
    · rw [sb.2 b (by rintro rfl; exact hZ hb)]; exact e
    · refine hR s2 c2 (Moved.trans W.gtrans ((mv.mono hsub).then_heap (Nat.le_succ _) fun b o hb e => ?_) mv2) hc2 hR2
      rw [sb.2 b (by rintro rfl; exact hb List.mem_cons_self)]; exact e
end
end DD
set_option Elab.async false
set_option linter.all false
set_option maxRecDepth 100000
set_option maxHeartbeats 4000000
/-! set(xs) of a list or a tuple of ints and texts; sorted of such a set -/
namespace DD
open PySem PySem.Spec PyProof.Rows L2
section
variable {P : Program} {w : World} {A : Around} {E : Value → Shared → Prop} {s : Shared}
abbrev set0 (w : World) : Obj := { cls := .type "set", dict := none, data := .set #[] 0 (.fresh 0 0 (!w.params.followText "set-order")) }
theorem Paired.get2 {α β : Type} {F : α → β → Prop} : ∀ {l₁ : List α} {l₂ : List β} {i : Nat} {y : β}, Paired F l₁ l₂ → l₂[i]? = some y → ∃ x, l₁[i]? = some x ∧ F x y
  | _, _, _, _, .nil, e => by simp at e
  | _, _, 0, y, .cons r _, e => by simp at e; subst e; exact ⟨_, rfl, r⟩
  | _, _, i + 1, y, .cons _ t, e => by
    obtain ⟨x, a, b⟩ := Paired.get2 (i := i) t (by simpa using e)
    exact ⟨x, by simpa using a, b⟩
theorem List.Nodup.of_map_inl {l : List Int} (h : (l.map Sum.inl : List Key).Nodup) : l.Nodup := by
  induction l with
  | nil => exact .nil
  | cons a l ih =>
    rw [List.map_cons, List.nodup_cons] at h
    exact List.nodup_cons.mpr ⟨fun q => h.1 (List.mem_map.mpr ⟨a, q, rfl⟩), ih h.2⟩
theorem List.Nodup.of_map_inr {l : List Str} (h : (l.map Sum.inr : List Key).Nodup) : l.Nodup := by
  induction l with
  | nil => exact .nil
  | cons a l ih =>
    rw [List.map_cons, List.nodup_cons] at h
    exact List.nodup_cons.mpr ⟨fun q => h.1 (List.mem_map.mpr ⟨a, q, rfl⟩), ih h.2⟩
theorem callM_set_tuple {l : Addr} {items : Array Value} (ks : List Key) {Q : Value → Shared → Prop} (hh : A.handled = none) (hl : s.heap.IsTuple l items) (hit : Paired (fun k v => keyIs k v = true) ks items.toList) (hb : ks.length + 1 < scanBound)
    (h : ∀ (h' : Heap) (tk c : Nat), SetM w h' s.heap.objs.size (kIn ks) c → c ≤ ks.length → (∀ b o, s.heap.get? b = some o → h'.get? b = some o) → Q (.ref s.heap.objs.size) { s with heap := h', toks := tk }) :
    wpAny (model P w) A (call (.type "set") [.ref l]) Q E s := by
  have hn : items.size = ks.length := by rw [← Array.length_toList]; exact (Paired.length hit).symm
  obtain ⟨c, tl, hmro⟩ := F.called_set.mro
  have hmade := F.called_set.made
  have hsub := F.called_set.sub
  refine wpAny_call (codeAny_of_tree ?_)
  show wpAny _ _ (callAny (.type "set") _) _ _ _
  refine wpAny_pure ⟨Code.quiet_builtin _ (by decide +kernel), codeAny_builtin F.entry_type_call ?_⟩
  rw [Around.under_plain (weight_type_call_type "set" [.ref l] []) rfl]
  have h1 := F.called_set.notType
  have h2 := F.called_set.canCreate
  have hct := F.typeCall_set_1 (.ref l)
  repeat (any_goals (first | assumption | wp_step))
  refine codeAny_mono (code_set_led1 (.ref l) (E := E) (Q₁ := fun obj s₁ => obj = .ref s.heap.objs.size ∧ s₁ = { s with heap := s.heap.push (set0 w) }) ⟨rfl, rfl⟩) fun r s₁ hr => ?_
  cases r with
  | error e => exact hr
  | ok fl =>
    cases fl with
    | ret obj =>
      obtain ⟨rfl, rfl⟩ := hr
      have hS : (s.heap.push (set0 w)).get? s.heap.objs.size = some (set0 w) := Heap.get?_push_size _ rfl
      have hT : Shared.TypeIs { s with heap := s.heap.push (set0 w) } (.ref s.heap.objs.size) "set" := ⟨_, hS, rfl⟩
      have hli := F.called_set.init.lookup
      have hbi := F.called_set.init.bind (.ref s.heap.objs.size)
      repeat (any_goals (first | assumption | wp_step))
      refine codeAny_mono (codeAny_call_builtin (R := wants (fun r s₂ => r = .none ∧ ∃ h' tk c, s₂ = { s with heap := h', toks := tk } ∧ SetM w h' s.heap.objs.size (kIn ks) c ∧ c ≤ ks.length ∧
          (∀ b o, s.heap.get? b = some o → h'.get? b = some o)) E) F.called_set.init.plain F.entry_set_init (check_set_init_1 hT ?_)) fun r₂ s₂ hr₂ => ?_
      · obtain ⟨⟨ocls, odict, odata, oslots⟩, hol, rfl, nl, rfl⟩ := hl
        have hol' : (s.heap.push (set0 w)).get? l = some { cls := .type "tuple", dict := odict, data := .seq items nl, slots := oslots } := Heap.get?_push_of_some _ hol
        have hsls := F.sub_tuple_set
        have hslf := F.sub_tuple_frozenset
        have hne : (Value.type "tuple" == Value.type "dict") = false := by decide
        have hl1 : (s.heap.push (set0 w)).IsTuple l items := ⟨_, hol', rfl, nl, rfl⟩
        unfold Builtin.«set.__init__» noKeywords Builtin.Frozenset.updateFrom
        generalize hPI : pyIter = PI
        wp_walk
        subst hPI
        refine wpAny_pyIter_tuple hl1 (wpAny_bind (wpAny_runValue ?_))
        have hlS : l < s.heap.objs.size := Heap.lt_size hol
        have hh3 : A.in1.in1.in1.handled = none := by simp [hh]
        have hz : (s.heap.push (set0 w)).objs.size = s.heap.objs.size + 1 := Heap.size_push ..
        have hneI : l ≠ (s.heap.push (set0 w)).objs.size := by rw [hz]; exact Nat.ne_of_lt (Nat.lt_succ_of_lt hlS)
        have hSf : s.heap.objs.size ∉ [(s.heap.push (set0 w)).objs.size, l] := by
          rw [hz]
          intro q
          rcases List.mem_cons.mp q with q | q
          · exact absurd q (Nat.ne_of_lt (Nat.lt_succ_self _))
          · exact absurd (List.mem_singleton.mp q) (Nat.ne_of_gt hlS)
        have hval : ∀ (i : Nat) (v : Value), items[i]? = some v → ∃ k, ks[i]? = some k ∧ keyIs k v = true := fun i v hv => by
          have hv' : items.toList[i]? = some v := by rw [Array.getElem?_toList]; exact hv
          exact Paired.get2 (F := fun k v => keyIs k v = true) hit hv'
        refine setM_update ((Walks.tuple hh3 _ l hneI items).toS) s.heap.objs.size hSf ks hn hb hval (items.size - 0) 0 _ (by omega) (Nat.zero_le _)
          ⟨⟨_, Heap.get?_push_size _ rfl, rfl, rfl⟩, (hl1.push _)⟩ ⟨0, Nat.le_refl 0, SetM.new (Heap.get?_push_of_some _ hS)⟩ ?_
        rintro ⟨h', g2, d', tk', os'⟩ c' mv hc' hS'
        obtain rfl : g2 = s.gens := mv.gens
        obtain rfl : d' = s.drawn := mv.drawn
        obtain rfl : os' = s.os := mv.os
        show wpAny _ _ _ _ _ _
        refine wpAny_pure ?_
        show wpAny _ _ (ret Value.none) _ _ _
        refine wpAny_pure ⟨rfl, h', tk', c', rfl, hS', hn ▸ hc', fun b o e => ?_⟩
        have hb0 : b < s.heap.objs.size := Heap.lt_size e
        refine mv.heap b o (fun q => ?_) (Heap.get?_push_of_some _ (Heap.get?_push_of_some _ e))
        rcases List.mem_cons.mp q with q | q
        · exact absurd q (Nat.ne_of_lt hb0)
        · rw [hz] at q
          exact absurd (List.mem_singleton.mp q) (Nat.ne_of_lt (Nat.lt_succ_of_lt hb0))
      · cases r₂ with
        | error e => exact hr₂
        | ok fl₂ =>
          cases fl₂ with
          | ret r =>
            obtain ⟨rfl, h', tk, c', rfl, hS', hc', hk'⟩ := hr₂
            repeat (any_goals (first | assumption | wp_step))
            exact h _ _ _ hS' hc' hk'
          | _ => exact hr₂.elim
    | _ => exact hr.elim
theorem callM_set_list {l : Addr} {items : Array Value} (ks : List Key) {Q : Value → Shared → Prop} (hh : A.handled = none) (hl : s.heap.IsList l items) (hit : Paired (fun k v => keyIs k v = true) ks items.toList) (hb : ks.length + 1 < scanBound)
    (h : ∀ (h' : Heap) (tk c : Nat), SetM w h' s.heap.objs.size (kIn ks) c → c ≤ ks.length → (∀ b o, s.heap.get? b = some o → h'.get? b = some o) → Q (.ref s.heap.objs.size) { s with heap := h', toks := tk }) :
    wpAny (model P w) A (call (.type "set") [.ref l]) Q E s := by
  have hn : items.size = ks.length := by rw [← Array.length_toList]; exact (Paired.length hit).symm
  obtain ⟨c, tl, hmro⟩ := F.called_set.mro
  have hmade := F.called_set.made
  have hsub := F.called_set.sub
  refine wpAny_call (codeAny_of_tree ?_)
  show wpAny _ _ (callAny (.type "set") _) _ _ _
  refine wpAny_pure ⟨Code.quiet_builtin _ (by decide +kernel), codeAny_builtin F.entry_type_call ?_⟩
  rw [Around.under_plain (weight_type_call_type "set" [.ref l] []) rfl]
  have h1 := F.called_set.notType
  have h2 := F.called_set.canCreate
  have hct := F.typeCall_set_1 (.ref l)
  repeat (any_goals (first | assumption | wp_step))
  refine codeAny_mono (code_set_led1 (.ref l) (E := E) (Q₁ := fun obj s₁ => obj = .ref s.heap.objs.size ∧ s₁ = { s with heap := s.heap.push (set0 w) }) ⟨rfl, rfl⟩) fun r s₁ hr => ?_
  cases r with
  | error e => exact hr
  | ok fl =>
    cases fl with
    | ret obj =>
      obtain ⟨rfl, rfl⟩ := hr
      have hS : (s.heap.push (set0 w)).get? s.heap.objs.size = some (set0 w) := Heap.get?_push_size _ rfl
      have hT : Shared.TypeIs { s with heap := s.heap.push (set0 w) } (.ref s.heap.objs.size) "set" := ⟨_, hS, rfl⟩
      have hli := F.called_set.init.lookup
      have hbi := F.called_set.init.bind (.ref s.heap.objs.size)
      repeat (any_goals (first | assumption | wp_step))
      refine codeAny_mono (codeAny_call_builtin (R := wants (fun r s₂ => r = .none ∧ ∃ h' tk c, s₂ = { s with heap := h', toks := tk } ∧ SetM w h' s.heap.objs.size (kIn ks) c ∧ c ≤ ks.length ∧
          (∀ b o, s.heap.get? b = some o → h'.get? b = some o)) E) F.called_set.init.plain F.entry_set_init (check_set_init_1 hT ?_)) fun r₂ s₂ hr₂ => ?_
      · obtain ⟨⟨ocls, odict, odata, oslots⟩, hol, rfl, nl, rfl⟩ := hl
        have hol' : (s.heap.push (set0 w)).get? l = some { cls := .type "list", dict := odict, data := .seq items nl, slots := oslots } := Heap.get?_push_of_some _ hol
        have hsls := F.sub_list_set
        have hslf := F.sub_list_frozenset
        have hne : (Value.type "list" == Value.type "dict") = false := by decide
        have hl1 : (s.heap.push (set0 w)).IsList l items := ⟨_, hol', rfl, nl, rfl⟩
        unfold Builtin.«set.__init__» noKeywords Builtin.Frozenset.updateFrom
        generalize hPI : pyIter = PI
        wp_walk
        subst hPI
        refine wpAny_pyIter_list hl1 (wpAny_bind (wpAny_runValue ?_))
        have hlS : l < s.heap.objs.size := Heap.lt_size hol
        have hh3 : A.in1.in1.in1.handled = none := by simp [hh]
        have hz : (s.heap.push (set0 w)).objs.size = s.heap.objs.size + 1 := Heap.size_push ..
        have hneI : l ≠ (s.heap.push (set0 w)).objs.size := by rw [hz]; exact Nat.ne_of_lt (Nat.lt_succ_of_lt hlS)
        have hSf : s.heap.objs.size ∉ [(s.heap.push (set0 w)).objs.size, l] := by
          rw [hz]
          intro q
          rcases List.mem_cons.mp q with q | q
          · exact absurd q (Nat.ne_of_lt (Nat.lt_succ_self _))
          · exact absurd (List.mem_singleton.mp q) (Nat.ne_of_gt hlS)
        have hval : ∀ (i : Nat) (v : Value), items[i]? = some v → ∃ k, ks[i]? = some k ∧ keyIs k v = true := fun i v hv => by
          have hv' : items.toList[i]? = some v := by rw [Array.getElem?_toList]; exact hv
          exact Paired.get2 (F := fun k v => keyIs k v = true) hit hv'
        refine setM_update ((Walks.list hh3 _ l hneI items).toS) s.heap.objs.size hSf ks hn hb hval (items.size - 0) 0 _ (by omega) (Nat.zero_le _)
          ⟨⟨_, Heap.get?_push_size _ rfl, rfl, rfl⟩, (hl1.push _)⟩ ⟨0, Nat.le_refl 0, SetM.new (Heap.get?_push_of_some _ hS)⟩ ?_
        rintro ⟨h', g2, d', tk', os'⟩ c' mv hc' hS'
        obtain rfl : g2 = s.gens := mv.gens
        obtain rfl : d' = s.drawn := mv.drawn
        obtain rfl : os' = s.os := mv.os
        show wpAny _ _ _ _ _ _
        refine wpAny_pure ?_
        show wpAny _ _ (ret Value.none) _ _ _
        refine wpAny_pure ⟨rfl, h', tk', c', rfl, hS', hn ▸ hc', fun b o e => ?_⟩
        have hb0 : b < s.heap.objs.size := Heap.lt_size e
        refine mv.heap b o (fun q => ?_) (Heap.get?_push_of_some _ (Heap.get?_push_of_some _ e))
        rcases List.mem_cons.mp q with q | q
        · exact absurd q (Nat.ne_of_lt hb0)
        · rw [hz] at q
          exact absurd (List.mem_singleton.mp q) (Nat.ne_of_lt (Nat.lt_succ_of_lt hb0))
      · cases r₂ with
        | error e => exact hr₂
        | ok fl₂ =>
          cases fl₂ with
          | ret r =>
            obtain ⟨rfl, h', tk, c', rfl, hS', hc', hk'⟩ := hr₂
            repeat (any_goals (first | assumption | wp_step))
            exact h _ _ _ hS' hc' hk'
          | _ => exact hr₂.elim
    | _ => exact hr.elim

/-- sorted of a set of ints, of a set of texts -/
theorem sortedM_int {a : Addr} {S : Key → Bool} {n : Nat} {Q : Value → Shared → Prop} (R : SetM w s.heap a S n) (hh : A.handled = none) (hi : ∀ x, S (.inr x) = false)
    (hQ : ∀ s' p (out : Array Value) (c : Nat) (ns : List Int), (∀ b o, s.heap.get? b = some o → s'.heap.get? b = some o) → s'.gens = s.gens → s'.os = s.os → s.heap.objs.size ≤ p →
      s'.heap.get? p = some (seqObj "list" out c) → IntsAre out.toList ns → ns.Pairwise (· < ·) → (∀ k, k ∈ ns ↔ S (.inl k) = true) → ns.length = n → Q (.ref p) s') :
    wpAny (model P w) A (call (.builtin "sorted") [.ref a]) Q E s := by
  obtain ⟨o, es, ep, t, ⟨so, sx, sd⟩, ⟨g, nd, hm⟩, ⟨hb, hf, hn⟩, hr, hl⟩ := R
  refine Calls.call_function_entry kind_sorted plain_sorted entry_sorted (args_sorted1 _) ?_
  unfold Builtin.«sorted»
  refine wpAny_bind (m := checkCount "sorted" 1 1 _) (wpAny_pure ?_)
  refine wpAny_bind (collect_set (A := A.in1) hh ⟨o, so, sx.1, sd⟩ hf hb hr hl fun s1 vs k1 hz g1 o1 pm => ?_)
  have hvl : vs.length = n := by rw [pm.length_eq, List.length_map, Array.length_toList]; exact hn
  have all : ∀ v ∈ vs, ∃ k tk, v = Value.int k tk := fun v hv => by
    obtain ⟨e, he, rfl⟩ := List.mem_map.mp (pm.mem_iff.mp hv)
    rcases keyIs_shape (g e he).1 with ⟨i, tk, _, e2⟩ | ⟨x, tk, e1, _⟩
    · exact ⟨i, tk, e2⟩
    · exfalso
      have : S (.inr x) = true := (hm _).2 (List.mem_map.mpr ⟨e, he, e1⟩)
      rw [hi x] at this; cases this
  have hI : IntsAre vs (vs.map Builtin.Re.reRawOf) := ints_of vs all
  have pk : ((vs.map Builtin.Re.reRawOf).map Sum.inl : List Key).Perm (es.toList.map kE) := by
    have q := pm.map kM
    rw [List.map_map] at q
    have e : (vs.map Builtin.Re.reRawOf).map (Sum.inl : Int → Key) = vs.map kM := by
      rw [List.map_map]
      exact List.map_congr_left fun v hv => by obtain ⟨k, tk, rfl⟩ := all v hv; rfl
    rw [e]; exact q
  refine wpAny_bind (wpAny_newList ?_ (by rw [hvl, sizeLine_eq]; unfold scanBound at hb; omega))
  have hoL : (s1.heap.push (seqObj "list" vs.toArray 0)).get? s1.heap.objs.size = some (seqObj "list" vs.toArray 0) := Heap.get?_push_size _ rfl
  refine wpAny_bind (wpAny_holding (wpAny_call_entry slot_list_sort ⟨_, hoL, rfl⟩ entry_list_sort (list_sort_treeAny hoL hI (by rw [hvl, sizeLine_eq]; unfold scanBound at hb; omega) fun out ns' a1 a2 a3 => ⟨_, rfl, ?_⟩) (args_list_sort _)))
  obtain ⟨c, hc⟩ := sortedHeap_at (vs := vs) (out := out) hoL
  have pn : (ns'.map Sum.inl : List Key).Perm (es.toList.map kE) := (a2.map _).trans pk
  have ndn : ns'.Nodup := List.Nodup.of_map_inl (pn.nodup_iff.mpr nd)
  refine wpAny_pure ⟨_, rfl, hQ _ s1.heap.objs.size out c ns' (fun b u e => ?_) g1 o1 hz hc a1 (lt_of_le_nodup ns' a3 ndn) (fun k => ?_) ?_⟩
  · have q := k1 b u e
    have hlt := Heap.lt_size q
    show (sortedHeap (s1.heap.push (seqObj "list" vs.toArray 0)) s1.heap.objs.size vs out).get? b = some u
    rw [sortedHeap_old (Nat.ne_of_lt hlt) (by rw [size_push']; exact Nat.lt_succ_of_lt hlt)]
    exact Heap.get?_push_of_some _ q
  · rw [hm, ← pn.mem_iff, List.mem_map]
    exact ⟨fun h => ⟨k, h, rfl⟩, fun ⟨x, h, e⟩ => Sum.inl.inj e ▸ h⟩
  · have := pn.length_eq
    simp only [List.length_map, Array.length_toList] at this
    exact this.trans hn
theorem strs_of' : ∀ vs : List Value, (∀ v ∈ vs, ∃ x tk, v = Value.str x tk) → ∃ ss : List Str, StrsAre vs ss ∧ (ss.map Sum.inr : List Key) = vs.map kM
  | [], _ => ⟨[], .nil, rfl⟩
  | v :: vs, h => by
    obtain ⟨x, tk, rfl⟩ := h v List.mem_cons_self
    obtain ⟨ss, a, b⟩ := strs_of' vs fun u hu => h u (List.mem_cons_of_mem _ hu)
    exact ⟨x :: ss, .cons x tk a, by rw [List.map_cons, b]; rfl⟩
theorem sortedM_str {a : Addr} {S : Key → Bool} {n : Nat} {Q : Value → Shared → Prop} (R : SetM w s.heap a S n) (hh : A.handled = none) (hi : ∀ x, S (.inl x) = false)
    (hQ : ∀ s' p (out : Array Value) (c : Nat) (ss : List Str), (∀ b o, s.heap.get? b = some o → s'.heap.get? b = some o) → s'.gens = s.gens → s'.os = s.os → s.heap.objs.size ≤ p →
      s'.heap.get? p = some (seqObj "list" out c) → StrsAre out.toList ss → sortedS ss = true → ss.Nodup → (∀ k, k ∈ ss ↔ S (.inr k) = true) → ss.length = n → Q (.ref p) s') :
    wpAny (model P w) A (call (.builtin "sorted") [.ref a]) Q E s := by
  obtain ⟨o, es, ep, t, ⟨so, sx, sd⟩, ⟨g, nd, hm⟩, ⟨hb, hf, hn⟩, hr, hl⟩ := R
  refine Calls.call_function_entry kind_sorted plain_sorted entry_sorted (args_sorted1 _) ?_
  unfold Builtin.«sorted»
  refine wpAny_bind (m := checkCount "sorted" 1 1 _) (wpAny_pure ?_)
  refine wpAny_bind (collect_set (A := A.in1) hh ⟨o, so, sx.1, sd⟩ hf hb hr hl fun s1 vs k1 hz g1 o1 pm => ?_)
  have hvl : vs.length = n := by rw [pm.length_eq, List.length_map, Array.length_toList]; exact hn
  have all : ∀ v ∈ vs, ∃ k tk, v = Value.str k tk := fun v hv => by
    obtain ⟨e, he, rfl⟩ := List.mem_map.mp (pm.mem_iff.mp hv)
    rcases keyIs_shape (g e he).1 with ⟨i, tk, e1, _⟩ | ⟨x, tk, _, e2⟩
    · exfalso
      have : S (.inl i) = true := (hm _).2 (List.mem_map.mpr ⟨e, he, e1⟩)
      rw [hi i] at this; cases this
    · exact ⟨x, tk, e2⟩
  obtain ⟨ss0, hI, ek⟩ := strs_of' vs all
  have pk : (ss0.map Sum.inr : List Key).Perm (es.toList.map kE) := by
    have q := pm.map kM
    rw [List.map_map] at q
    rw [ek]; exact q
  have hL : vs.length ≤ sizeLine := by rw [hvl, sizeLine_eq]; unfold scanBound at hb; omega
  refine wpAny_bind (wpAny_newList ?_ (by rw [hvl, sizeLine_eq]; unfold scanBound at hb; omega))
  have hoL : (s1.heap.push (seqObj "list" vs.toArray 0)).get? s1.heap.objs.size = some (seqObj "list" vs.toArray 0) := Heap.get?_push_size _ rfl
  refine wpAny_bind (wpAny_holding (wpAny_call_entry slot_list_sort ⟨_, hoL, rfl⟩ entry_list_sort (list_sort_treeKAny strKind_oneLt hoL hI.keysOf (fun v₁ v₂ rest e => keyKind_strs (by rw [← e]; exact hI)) hL fun st' b1 b2 => ⟨_, rfl, ?_⟩) (args_list_sort _)))
  obtain ⟨ss', a1, a2, a3⟩ := sorted_out_str hI b1 b2
  obtain ⟨c, hc⟩ := sortedHeap_at (vs := vs) (out := (arrOf st').map (·.2)) hoL
  have pn : (ss'.map Sum.inr : List Key).Perm (es.toList.map kE) := (a2.map _).trans pk
  refine wpAny_pure ⟨_, rfl, hQ _ s1.heap.objs.size _ c ss' (fun b u e => ?_) g1 o1 hz hc a1 a3 (List.Nodup.of_map_inr (pn.nodup_iff.mpr nd)) (fun k => ?_) ?_⟩
  · have q := k1 b u e
    have hlt := Heap.lt_size q
    show (sortedHeap (s1.heap.push (seqObj "list" vs.toArray 0)) s1.heap.objs.size vs _).get? b = some u
    rw [sortedHeap_old (Nat.ne_of_lt hlt) (by rw [size_push']; exact Nat.lt_succ_of_lt hlt)]
    exact Heap.get?_push_of_some _ q
  · rw [hm, ← pn.mem_iff, List.mem_map]
    exact ⟨fun h => ⟨k, h, rfl⟩, fun ⟨x, h, e⟩ => Sum.inr.inj e ▸ h⟩
  · have := pn.length_eq
    simp only [List.length_map, Array.length_toList] at this
    exact this.trans hn
end
end DD
set_option Elab.async false
set_option linter.all false
set_option maxRecDepth 100000
set_option maxHeartbeats 4000000
namespace DD
open PySem PySem.Spec L2
/-! ## arithmetic -/
def valR (o : Option D) (h : Hd) : Res O := optR (o.map .val) h
def newL (h : Hd) (xs : List D) : Res O := if xs.length ≤ sizeLine then .ok (.new (.lst xs)) h else .bad
def addF (x y : D) (h : Hd) : Res O := match x, y with
  | .int i, .int j => .ok (.val (.int (i + j))) h
  | .str a, .str b => if a.length + b.length ≤ sizeLine then .ok (.val (.str (a ++ b))) h else .bad
  | .tup a, .tup b => if a.length + b.length ≤ sizeLine then .ok (.val (.tup (a ++ b))) h else .bad
  | x, y => match lstOf h x, lstOf h y with
    | some a, some b => newL h (a ++ b)
    | _, _ => .bad
def subF (x y : D) (h : Hd) : Res O := match x, y with
  | .int i, .int j => .ok (.val (.int (i - j))) h
  | _, _ => .bad
def mulF (x y : D) (h : Hd) : Res O := match x, y with
  | .int i, .int j => if (-(2 ^ 64) < i ∧ i < 2 ^ 64) ∨ (-(2 ^ 64) < j ∧ j < 2 ^ 64) then .ok (.val (.int (i * j))) h else .bad
  | x, .int k => match lstOf h x with
    | some xs => if -(2 ^ 63) ≤ k ∧ k < 2 ^ 63 ∧ xs.length * k.toNat ≤ sizeLine then .ok (.new (.lst (List.replicate k.toNat xs).flatten)) h else .bad
    | _ => .bad
  | _, _ => .bad
def fdivF (x y : D) (h : Hd) : Res O := match x, y with
  | .int i, .int j => if 0 < j ∧ j < 1000000000000000000000000000000 then .ok (.val (.int (i / j))) h else .bad
  | _, _ => .bad
def modF (x y : D) (h : Hd) : Res O := match x, y with
  | .int i, .int j => if 0 < j then .ok (.val (.int (i % j))) h else .bad
  | _, _ => .bad
def powF (x y : D) (h : Hd) : Res O := match x, y with
  | .int i, .int j => if 0 ≤ j ∧ j ≤ 1000000 ∧ i.natAbs < 2 ^ 64 then .ok (.val (.int (i ^ j.toNat))) h else .bad
  | _, _ => .bad
def rAddA (K : PySem.W.Frag) : R2 := fun x y H Q => rI0 (fun i j => .int (i + j)) x y H Q ∨ (∃ i j, x = .str i ∧ y = .str j ∧ i.length + j.length ≤ sizeLine ∧ Q (.str (i ++ j)) H) ∨ rCatA K x y H Q ∨ rCat x y H Q
theorem op_addA {X : Cx} : OpR X (binaryOp .Add) (rAddA X.K) := op_add.or (op_add_str.or (op_catA.or op_cat))
theorem VRs.nil_iff {c : Ct} {w : Wd} {xs : List D} {vs : List V} (r : VRs c w xs vs) : xs = [] ↔ vs = [] := by
  have := r.len
  cases xs <;> cases vs <;> simp_all
theorem s_add {c : Ct} : OpS c (rAddA c.K) addF := fun {w W σ h H x y dx dy Q} s rx ry p => by
  have lists : (match lstOf h dx, lstOf h dy with | some a, some b => newL h (a ++ b) | _, _ => Res.bad) = addF dx dy h → rAddA c.K x y H Q := fun e => by
    rw [← e] at p
    split at p
    · rename_i a b ea eb
      obtain ⟨l, vs, rfl, h1, r1⟩ := lstOf_ok s rx ea
      obtain ⟨l2, us, rfl, h2, r2⟩ := lstOf_ok s ry eb
      unfold newL at p
      split at p
      · rename_i hz
        refine .inr (.inr (.inr ⟨l, l2, vs, us, rfl, rfl, h1, h2, by rw [List.length_append, r1.len, r2.len] at hz; exact hz, fun q hq => ?_⟩))
        obtain ⟨s2, r3⟩ := new_obj (z := .lst (a ++ b)) s hq (by intro z; cases z) ⟨_, upd_same, r1.append r2⟩
        exact p _ w _ (.refl _) r3 s2
      · exact p.elim
    · exact p.elim
  cases dx with
  | int i =>
    cases dy with
    | int j => simp only [VR] at rx ry; exact .inl ⟨i, j, rx, ry, p.ret (by simp only [RO, VR]) s⟩
    | _ => exact lists rfl
  | str a =>
    cases dy with
    | str b =>
      simp only [VR] at rx ry
      simp only [addF] at p
      split at p
      · rename_i hz; exact .inr (.inl ⟨a, b, rx, ry, hz, p.ret (by simp only [RO, VR]) s⟩)
      · exact p.elim
    | _ => exact lists rfl
  | tup a =>
    cases dy with
    | tup b =>
      simp only [addF] at p
      split at p
      · rename_i hz
        have rx' := rx; have ry' := ry
        simp only [VR] at rx ry
        obtain ⟨l, vs, rfl, h1, r1⟩ := rx
        obtain ⟨l2, us, rfl, h2, r2⟩ := ry
        refine .inr (.inr (.inl ⟨l, l2, vs, us, rfl, rfl, SqT_le s.F h1, SqT_le s.F h2, by rw [← r1.len, ← r2.len]; exact hz, fun q => ?_, fun q q2 => ?_, fun q q2 n hn => ?_⟩))
        · have := r1.nil_iff.2 q
          subst this
          exact p.ret (by simpa only [RO, List.nil_append] using ry') s
        · have := r2.nil_iff.2 q2
          subst this
          exact p.ret (by simpa only [RO, List.append_nil] using rx') s
        · obtain ⟨w2, l2, s2, r3⟩ := new_tup s (r1.append r2) hn
          exact p _ w2 _ l2 r3 s2
      · exact p.elim
    | _ => exact lists rfl
  | _ => exact lists (by cases dy <;> rfl)
theorem s_sub {c : Ct} : OpS c (rI0 fun i j => .int (i - j)) subF := fun {w W σ h H x y dx dy Q} s rx ry p => by
  cases dx with
  | int i =>
    cases dy with
    | int j => simp only [VR] at rx ry; exact ⟨i, j, rx, ry, p.ret (by simp only [RO, VR]) s⟩
    | _ => exact p.elim
  | _ => exact p.elim
theorem s_fdiv {c : Ct} : OpS c (rI CDivW fun i j => .int (i / j)) fdivF := fun {w W σ h H x y dx dy Q} s rx ry p => by
  cases dx with
  | int i =>
    cases dy with
    | int j =>
      simp only [fdivF] at p
      split at p
      · rename_i hz; simp only [VR] at rx ry; exact ⟨i, j, rx, ry, wide_div (b := 100) hz.1 (by omega) (by decide) (by decide), p.ret (by simp only [RO, VR]) s⟩
      · exact p.elim
    | _ => exact p.elim
  | _ => exact p.elim
theorem s_mod {c : Ct} : OpS c (rI (fun _ j => 0 < j) fun i j => .int (i % j)) modF := fun {w W σ h H x y dx dy Q} s rx ry p => by
  cases dx with
  | int i =>
    cases dy with
    | int j =>
      simp only [modF] at p
      split at p
      · rename_i hz; simp only [VR] at rx ry; exact ⟨i, j, rx, ry, hz, p.ret (by simp only [RO, VR]) s⟩
      · exact p.elim
    | _ => exact p.elim
  | _ => exact p.elim
theorem s_pow {c : Ct} : OpS c (rI CPow fun i j => .int (i ^ j.toNat)) powF := fun {w W σ h H x y dx dy Q} s rx ry p => by
  cases dx with
  | int i =>
    cases dy with
    | int j =>
      simp only [powF] at p
      split at p
      · rename_i hz; simp only [VR] at rx ry; exact ⟨i, j, rx, ry, hz, p.ret (by simp only [RO, VR]) s⟩
      · exact p.elim
    | _ => exact p.elim
  | _ => exact p.elim
def rMulA : R2 := fun x y H Q => rI CMul (fun i j => .int (i * j)) x y H Q ∨ rRep x y H Q
theorem op_mulA {X : Cx} : OpR X (binaryOp .Mult) rMulA := op_mul.or op_rep
theorem VRs.rep {c : Ct} {w : Wd} {xs : List D} {vs : List V} (r : VRs c w xs vs) : ∀ k : Nat, VRs c w (List.replicate k xs).flatten (List.replicate k vs).flatten
  | 0 => .nil
  | k + 1 => by
    rw [List.replicate_succ, List.replicate_succ, List.flatten_cons, List.flatten_cons]
    exact r.append (VRs.rep r k)
theorem s_mul {c : Ct} : OpS c rMulA mulF := fun {w W σ h H x y dx dy Q} s rx ry p => by
  cases dy with
  | int j =>
    have lists : (match lstOf h dx with | some xs => if -(2 ^ 63) ≤ j ∧ j < 2 ^ 63 ∧ xs.length * j.toNat ≤ sizeLine then Res.ok (O.new (.lst (List.replicate j.toNat xs).flatten)) h else .bad | _ => .bad) = mulF dx (.int j) h → rMulA x y H Q := fun e => by
      rw [← e] at p
      split at p
      · rename_i xs ea
        split at p
        · rename_i hz
          obtain ⟨l, vs, rfl, h1, r1⟩ := lstOf_ok s rx ea
          simp only [VR] at ry
          refine .inr ⟨l, j, vs, rfl, ry, h1, hz.1, hz.2.1, by rw [← r1.len]; exact hz.2.2, fun q hq => ?_⟩
          obtain ⟨s2, r3⟩ := new_obj (z := .lst (List.replicate j.toNat xs).flatten) s hq (by intro z; cases z) ⟨_, upd_same, r1.rep _⟩
          exact p _ w _ (.refl _) r3 s2
        · exact p.elim
      · exact p.elim
    cases dx with
    | int i =>
      simp only [mulF] at p
      split at p
      · rename_i hz; simp only [VR] at rx ry; exact .inl ⟨i, j, rx, ry, hz, p.ret (by simp only [RO, VR]) s⟩
      · exact p.elim
    | _ => exact lists rfl
  | _ => cases dx <;> exact p.elim

/-! ## built-in functions -/
def CallS (c : Ct) (r : List V → Hp → VK → Prop) (f : List D → Hd → Res O) : Prop := ∀ {w : Wd} {W : WX} {σ : L2.St} {h : Hd} {H : Hp} {vs : List V} {ds : List D} {Q : VK}, SR c w h H → VRs c w ds vs → Post (RO c) c w W σ (f ds h) Q → r vs H Q
def mBi (f : List D → Hd → Res O) (m : MA) : Env → Hd → Res O := fun ρ h => (m ρ h).bind f
theorem VRs.one_inv {c : Ct} {w : Wd} {d : D} {vs : List V} (r : VRs c w [d] vs) : ∃ v, vs = [v] ∧ VR c w d v := by
  simp only [VRs] at r
  obtain ⟨v, _, rfl, r, rfl⟩ := r
  exact ⟨v, rfl, r⟩
theorem VRs.two_inv {c : Ct} {w : Wd} {d e : D} {vs : List V} (r : VRs c w [d, e] vs) : ∃ v u, vs = [v, u] ∧ VR c w d v ∧ VR c w e u := by
  simp only [VRs] at r
  obtain ⟨v, _, rfl, r, u, _, rfl, q, rfl⟩ := r
  exact ⟨v, u, rfl, r, q⟩
def lenF : List D → Hd → Res O
  | [.str s], h => if s.length ≤ sizeLine then .ok (.val (.int s.length)) h else .bad
  | [d], h => valR ((seqOf h d).map fun xs => .int xs.length) h
  | _, _ => .bad
theorem s_len {c : Ct} : CallS c (fun xs H Q => ∃ x n, xs = [x] ∧ LenV c.K x H n ∧ Q (.int n) H) lenF := fun {w W σ h H vs ds Q} s r p => by
  cases ds with
  | nil => exact p.elim
  | cons d ds =>
    cases ds with
    | cons _ _ => cases d <;> exact p.elim
    | nil =>
      obtain ⟨v, rfl, r'⟩ := r.one_inv
      replace r := r'
      have gen : Post (RO c) c w W σ (valR ((seqOf h d).map fun xs => .int xs.length) h) Q → ∃ x n, [v] = [x] ∧ LenV c.K x H n ∧ Q (.int n) H := fun p => by
        obtain ⟨o, eo, p⟩ := optR_post p
        rw [Option.map_map, Option.map_eq_some_iff] at eo
        obtain ⟨xs, ex, rfl⟩ := eo
        obtain ⟨a, vs, rfl, hq, z⟩ := seqOf_ok s r ex
        refine ⟨_, vs.length, rfl, hq.imp (fun q => ⟨vs, q, rfl⟩) (fun q => ⟨vs, q, rfl⟩), ?_⟩
        rw [← z.len]
        exact p.ret (by simp only [RO, Function.comp, VR]) s
      cases d with
      | str z =>
        simp only [VR] at r; subst r
        simp only [lenF] at p
        split at p
        · rename_i hz; exact ⟨_, _, rfl, ⟨hz, rfl⟩, p.ret (by simp only [RO, VR]) s⟩
        · exact p.elim
      | _ => exact gen p
/-- list(x), tuple(x) of a list, a tuple, list of a text -/
def listF : List D → Hd → Res O
  | [.str s], h => if s.length ≤ sizeLine then .ok (.new (.lst (signs s))) h else .bad
  | [d], h => optR ((seqOf h d).map fun xs => .new (.lst xs)) h
  | _, _ => .bad
theorem call_listS {X : Cx} (hc : X.calm = true) : CallR X (.type "list") (fun xs H Q => ∃ z : Str, xs = [.str z] ∧ z.length ≤ sizeLine ∧ ∀ p, H p = none → Q (.ref p) (upd H p (.lst (z.cps.toList.map fun c => V.str ⟨#[c]⟩)))) := by
  intro pins s σ H xs us Q I r q
  obtain ⟨z, rfl, hz, q⟩ := q
  obtain ⟨u, rfl, rx⟩ := vals1 r
  obtain ⟨t, rfl⟩ := rx
  refine call_list_str (I.ok.hd hc) z t (hn := hz) fun h' tk acc c' hk hS hacc => ?_
  have hl : acc.toList.length = z.cps.toList.length := by rw [Array.length_toList]; exact hacc.1
  have hv : Vals (z.cps.toList.map fun c => V.str ⟨#[c]⟩) acc.toList := by
    refine Vals_of_get (by rw [List.length_map, hl]) fun i v u e1 e2 => ?_
    obtain ⟨c, u', hc', rfl⟩ := hacc.2 i u (by rw [← Array.getElem?_toList]; exact e2)
    rw [List.getElem?_map, Array.getElem?_toList, hc'] at e1
    cases e1
    exact ⟨u', rfl⟩
  exact ⟨.ref s.heap.objs.size, _, I.laid (t' := tk) hk (Nat.le_refl _) (show ObjOk X.prog X.w _ _ _ (.lst _) from ⟨by rw [List.length_map]; exact hz, acc.toList, c', hv, by rw [Array.toArray_toList]; exact hS⟩), rfl, q _ (I.hok.fresh (Nat.le_refl _))⟩
where
  Vals_of_get : ∀ {vs : List V} {us : List Value}, vs.length = us.length → (∀ (i : Nat) v u, vs[i]? = some v → us[i]? = some u → RelV v u) → Vals vs us
    | [], [], _, _ => .nil
    | [], _ :: _, h, _ => by simp at h
    | _ :: _, [], h, _ => by simp at h
    | v :: vs, u :: us, h, g => .cons (g 0 v u rfl rfl) (Vals_of_get (by simpa using h) fun i x y e1 e2 => g (i + 1) x y (by simpa using e1) (by simpa using e2))
def rListA (K : PySem.W.Frag) : List V → Hp → VK → Prop := fun xs H Q => (∃ p ys, xs = [.ref p] ∧ (SqL K H p ys ∨ SqT K H p ys) ∧ ∀ l, H l = none → Q (.ref l) (upd H l (.lst ys))) ∨
  (∃ z : Str, xs = [.str z] ∧ z.length ≤ sizeLine ∧ ∀ p, H p = none → Q (.ref p) (upd H p (.lst (z.cps.toList.map fun c => V.str ⟨#[c]⟩))))
theorem call_listA {X : Cx} (hc : X.calm = true) : CallR X (.type "list") (rListA X.K) := call_list_of.or (call_listS hc)
theorem VRs_signs {c : Ct} {w : Wd} : ∀ l : List Nat, VRs c w (l.map fun z => D.str ⟨#[z]⟩) (l.map fun z => V.str ⟨#[z]⟩)
  | [] => .nil
  | z :: l => .cons (by simp only [VR]) (VRs_signs l)
theorem s_list {c : Ct} : CallS c (rListA c.K) listF := fun {w W σ h H vs ds Q} s r p => by
  cases ds with
  | nil => exact p.elim
  | cons d ds =>
    cases ds with
    | cons _ _ => cases d <;> exact p.elim
    | nil =>
      obtain ⟨v, rfl, r'⟩ := r.one_inv
      replace r := r'
      have gen : Post (RO c) c w W σ (optR ((seqOf h d).map fun xs => .new (.lst xs)) h) Q → rListA c.K [v] H Q := fun p => by
        obtain ⟨o, eo, p⟩ := optR_post p
        rw [Option.map_eq_some_iff] at eo
        obtain ⟨xs, ex, rfl⟩ := eo
        obtain ⟨a, vs, rfl, hq, z⟩ := seqOf_ok s r ex
        refine .inl ⟨a, vs, rfl, hq, fun q hn => ?_⟩
        obtain ⟨s2, r3⟩ := new_obj (z := .lst xs) s hn (by intro z; cases z) ⟨_, upd_same, z⟩
        exact p _ w _ (.refl _) r3 s2
      cases d with
      | str z =>
        simp only [VR] at r; subst r
        simp only [listF] at p
        split at p
        · rename_i hz
          refine .inr ⟨z, rfl, hz, fun q hn => ?_⟩
          obtain ⟨s2, r3⟩ := new_obj (z := .lst (signs z)) s hn (by intro z; cases z) ⟨_, upd_same, VRs_signs _⟩
          exact p _ w _ (.refl _) r3 s2
        · exact p.elim
      | _ => exact gen p
def tupleF : List D → Hd → Res O
  | [.tup xs], h => .ok (.val (.tup xs)) h
  | [.ktp _], _ => .bad
  | [d], h => valR ((seqOf h d).map .tup) h
  | _, _ => .bad
def rTupA (K : PySem.W.Frag) : List V → Hp → VK → Prop := fun xs H Q => ∃ p ys, xs = [.ref p] ∧ ((SqL K H p ys ∧ ∀ l, H l = none → Q (.ref l) (upd H l (.tup ys))) ∨ (SqT K H p ys ∧ Q (.ref p) H))
theorem s_tuple {c : Ct} : CallS c (rTupA c.K) tupleF := fun {w W σ h H vs ds Q} s r p => by
  cases ds with
  | nil => exact p.elim
  | cons d ds =>
    cases ds with
    | cons _ _ => cases d <;> exact p.elim
    | nil =>
      obtain ⟨v, rfl, r'⟩ := r.one_inv
      replace r := r'
      have gen : (∀ xs, d ≠ .tup xs) → (∀ xs, d ≠ .ktp xs) → Post (RO c) c w W σ (valR ((seqOf h d).map .tup) h) Q → rTupA c.K [v] H Q := fun nt nk p => by
        obtain ⟨o, eo, p⟩ := optR_post p
        rw [Option.map_map, Option.map_eq_some_iff] at eo
        obtain ⟨xs, ex, rfl⟩ := eo
        have lst : ∃ a vs, v = .ref a ∧ SqL c.K H a vs ∧ VRs c w xs vs := by
          cases d with
          | tup ys => exact absurd rfl (nt _)
          | ktp ys => exact absurd rfl (nk _)
          | rol ys =>
            simp only [seqOf, Option.some.injEq] at ex; subst ex
            simp only [VR] at r
            obtain ⟨a, vs, e1, q, z⟩ := r
            exact ⟨a, vs, e1, SqL_le s.F q, z⟩
          | lst ys =>
            obtain ⟨a, vs, e1, q, z⟩ := lstOf_ok s r (show lstOf h (.lst ys) = some xs from ex)
            exact ⟨a, vs, e1, SqL.of q, z⟩
          | ref ys =>
            obtain ⟨a, vs, e1, q, z⟩ := lstOf_ok s r (show lstOf h (.ref ys) = some xs from ex)
            exact ⟨a, vs, e1, SqL.of q, z⟩
          | _ => simp [seqOf, lstOf] at ex
        obtain ⟨a, vs, rfl, hq, z⟩ := lst
        refine ⟨a, vs, rfl, .inl ⟨hq, fun q hn => ?_⟩⟩
        obtain ⟨w2, l2, s2, r3⟩ := new_tup s z hn
        exact p _ w2 _ l2 r3 s2
      cases d with
      | tup xs =>
        have r' := r
        simp only [VR] at r
        obtain ⟨a, vs, rfl, q, z⟩ := r
        exact ⟨a, vs, rfl, .inr ⟨SqT_le s.F q, p.ret r' s⟩⟩
      | ktp xs => exact p.elim
      | _ => exact gen (by intro _ q; cases q) (by intro _ q; cases q) p
/-- all, any of a list of truths -/
def toBs : List D → Option (List Bool)
  | [] => some []
  | .bl b :: r => (toBs r).map (b :: ·)
  | _ => none
theorem toBs_ok {c : Ct} {w : Wd} : ∀ {ds : List D} {vs : List V} {bs : List Bool}, VRs c w ds vs → toBs ds = some bs → vs = bs.map V.bl
  | [], vs, bs, r, e => by simp only [VRs] at r; simp only [toBs, Option.some.injEq] at e; subst e; exact r
  | d :: ds, vs, bs, r, e => by
    cases d with
    | bl b =>
      simp only [toBs, Option.map_eq_some_iff] at e
      obtain ⟨bs', e', rfl⟩ := e
      simp only [VRs] at r
      obtain ⟨v, us, rfl, r1, r2⟩ := r
      simp only [VR] at r1
      rw [r1, toBs_ok r2 e']; rfl
    | _ => simp [toBs] at e
def allF : List D → Hd → Res O
  | [d], h => valR ((lstOf h d).bind fun xs => (toBs xs).map fun bs => .bl (bs.all id)) h
  | _, _ => .bad
def anyF : List D → Hd → Res O
  | [d], h => valR ((lstOf h d).bind fun xs => (toBs xs).map fun bs => .bl (bs.any id)) h
  | _, _ => .bad
theorem bools_ok {c : Ct} {w : Wd} {h : Hd} {H : Hp} {d : D} {v : V} {f : List Bool → D} {o : O} (s : SR c w h H) (r : VR c w d v) (e : ((lstOf h d).bind fun xs => (toBs xs).map f).map O.val = some o) : ∃ (a : Addr) (bs : List Bool), v = .ref a ∧ SqL c.K H a (bs.map V.bl) ∧ o = .val (f bs) := by
  rw [Option.map_eq_some_iff] at e
  obtain ⟨x, e, rfl⟩ := e
  rw [Option.bind_eq_some_iff] at e
  obtain ⟨xs, e1, e2⟩ := e
  rw [Option.map_eq_some_iff] at e2
  obtain ⟨bs, e2, rfl⟩ := e2
  obtain ⟨a, vs, rfl, hq, z⟩ := lstOf_ok s r e1
  exact ⟨a, bs, rfl, SqL.of (by rw [hq, toBs_ok z e2]), rfl⟩
theorem s_all {c : Ct} : CallS c (rAll c.K) allF := fun {w W σ h H vs ds Q} s r p => by
  cases ds with
  | nil => exact p.elim
  | cons d ds =>
    cases ds with
    | cons _ _ => exact p.elim
    | nil =>
      obtain ⟨v, rfl, r'⟩ := r.one_inv
      replace r := r'
      obtain ⟨o, eo, p⟩ := optR_post p
      obtain ⟨a, bs, rfl, hq, rfl⟩ := bools_ok s r eo
      exact ⟨a, bs, rfl, hq, p.ret (by simp only [RO, VR]) s⟩
theorem s_any {c : Ct} : CallS c (rAny c.K) anyF := fun {w W σ h H vs ds Q} s r p => by
  cases ds with
  | nil => exact p.elim
  | cons d ds =>
    cases ds with
    | cons _ _ => exact p.elim
    | nil =>
      obtain ⟨v, rfl, r'⟩ := r.one_inv
      replace r := r'
      obtain ⟨o, eo, p⟩ := optR_post p
      obtain ⟨a, bs, rfl, hq, rfl⟩ := bools_ok s r eo
      exact ⟨a, bs, rfl, hq, p.ret (by simp only [RO, VR]) s⟩
section
variable {X : Cx} {W : WX} {e a : Expr} {es : List Expr} {mas : MA} {ma : ME} {x : Str} {p pos : Pos} {id T : String} {r : List V → Hp → VK → Prop} {f : List D → Hd → Res O}
theorem e_bi (hc : CallR X (.builtin id) r) (hs : CallS (Cx.ct X) r f) (hm : X.mg x = none) (hv : bootBuiltins x = some (.builtin id)) (ha : SA X W (e :: es) mas) (hg : Gl X x := by rfl) (hn : x ≠ "__name__" := by decide) (hdb : (x == ("__debug__" : Str)) = false := by decide)
    (he : starEach (e :: es) X.env = (false, eval e X.env) :: starEach es X.env := by rfl) (hpl : (backTo pos (starEach es X.env)).any (·.1) = false := by rfl) : SO X W (.Call (.Name x p) (e :: es) [] pos) (mBi f mas) :=
  PE.imp (pe_callB hc hg hm hv ha hn hdb he hpl) fun σ H Q q => (tP.bind q).mono fun vs H1 ⟨w1, ρ, h1, d, e1, s1, r1, p1⟩ => hs s1 r1 p1
theorem e_bt (hc : CallR X (.type T) r) (hs : CallS (Cx.ct X) r f) (hm : X.mg x = none) (hv : bootBuiltins x = some (.type T)) (ha : SA X W (e :: es) mas) (hg : Gl X x := by rfl) (hn : x ≠ "__name__" := by decide) (hdb : (x == ("__debug__" : Str)) = false := by decide)
    (he : starEach (e :: es) X.env = (false, eval e X.env) :: starEach es X.env := by rfl) (hpl : (backTo pos (starEach es X.env)).any (·.1) = false := by rfl) : SO X W (.Call (.Name x p) (e :: es) [] pos) (mBi f mas) :=
  PE.imp (pe_callTy hc hg hm hv ha hn hdb he hpl) fun σ H Q q => (tP.bind q).mono fun vs H1 ⟨w1, ρ, h1, d, e1, s1, r1, p1⟩ => hs s1 r1 p1
/-- a built-in's answer is no new thing -/
def mOut (m : Env → Hd → Res O) : ME := mFz m
/-- a built-in class as a value -/
theorem e_ty {T : String} (hm : X.mg x = none) (hv : bootBuiltins x = some (.type T)) (hg : Gl X x := by rfl) (hn : x ≠ "__name__" := by decide) (hdb : (x == ("__debug__" : Str)) = false := by decide) : SE X W (.Name x p) (mC (.ty T)) :=
  e_C (pe_bltn (v := .ty T) hg hm hv rfl hn hdb) fun w => by simp only [VR]
end
/-! isinstance -/
def tyName (h : Hd) : D → Option String
  | .non => some "NoneType"
  | .bl _ => some "bool"
  | .int _ => some "int"
  | .str _ => some "str"
  | .tup _ => some "tuple"
  | .lst _ => some "list"
  | .rol _ => some "list"
  | .dct _ _ => some "dict"
  | .ktp _ => some "tuple"
  | .ref r => match h[r]? with
    | some (.lst _) => some "list"
    | some (.dct _ _) => some "dict"
    | some (.dtt _ _) => some "dict"
    | _ => none
  | _ => none
/-- by the table of the built-in classes that stand here -/
def isT (a b : String) : Bool := a == b || (a == "bool" && b == "int")
def tyKnown : List String := ["bool", "int", "str", "tuple", "list", "dict"]
theorem isT_ok {a b : String} (ha : a ∈ "NoneType" :: tyKnown) (hb : b ∈ tyKnown) : kitB a b = some (isT a b) := by
  have k : ∀ a ∈ "NoneType" :: tyKnown, ∀ b ∈ tyKnown, kitB a b = some (isT a b) := by decide +kernel
  exact k a ha b hb
theorem tyName_ok {c : Ct} {w : Wd} {h : Hd} {H : Hp} {d : D} {v : V} {t : String} (s : SR c w h H) (r : VR c w d v) (e : tyName h d = some t) : t ∈ "NoneType" :: tyKnown ∧ TyX c.K H v (.type t) := by
  have m : ∀ u, u ∈ "NoneType" :: tyKnown → tyName h d = some u → u = t := fun u _ q => Option.some.inj (q.symm.trans e)
  have lst : ∀ xs, lstOf h d = some xs → TyX c.K H v (.type "list") := fun xs q => by
    obtain ⟨a, vs, rfl, hq, _⟩ := lstOf_ok s r q
    exact .base (.lst hq)
  cases d with
  | non => simp only [tyName, Option.some.injEq] at e; simp only [VR] at r; subst e; subst r; exact ⟨by decide, .base .non⟩
  | bl b => simp only [tyName, Option.some.injEq] at e; simp only [VR] at r; subst e; subst r; exact ⟨by decide, .base (.bl b)⟩
  | int b => simp only [tyName, Option.some.injEq] at e; simp only [VR] at r; subst e; subst r; exact ⟨by decide, .base (.int b)⟩
  | str b => simp only [tyName, Option.some.injEq] at e; simp only [VR] at r; subst e; subst r; exact ⟨by decide, .base (.str b)⟩
  | tup xs =>
    simp only [tyName, Option.some.injEq] at e
    subst e
    simp only [VR] at r
    obtain ⟨a, vs, rfl, q, z⟩ := r
    refine ⟨by decide, ?_⟩
    exact .base (.tup (s.F _ _ q))
  | ktp xs =>
    simp only [tyName, Option.some.injEq] at e
    subst e
    simp only [VR] at r
    obtain ⟨a, vs, rfl, ⟨o, its, n, q1, q2, _⟩, z⟩ := r
    exact ⟨by decide, .kTuple q1 q2⟩
  | lst xs => simp only [tyName, Option.some.injEq] at e; subst e; exact ⟨by decide, lst xs rfl⟩
  | rol xs =>
    simp only [tyName, Option.some.injEq] at e
    subst e
    simp only [VR] at r
    obtain ⟨a, vs, rfl, q, z⟩ := r
    refine ⟨by decide, ?_⟩
    rcases SqL_le s.F q with (q | ⟨o, q⟩) | ⟨o, its, n, q1, q2, _⟩
    · exact .base (.lst q)
    · exact .base (.frz q)
    · exact .kList q1 q2
  | dct ks us =>
    simp only [tyName, Option.some.injEq] at e
    subst e
    simp only [VR] at r
    obtain ⟨a, od, kvs, rfl, q, _⟩ := r
    exact ⟨by decide, .fDict (s.F _ _ q)⟩
  | ref k =>
    simp only [tyName] at e
    split at e
    · rename_i xs ex
      cases e
      exact ⟨by decide, lst xs (by simp only [lstOf, ex])⟩
    · rename_i ks us ex
      cases e
      simp only [VR] at r
      obtain ⟨a, rfl, f⟩ := r
      obtain ⟨b, q1, _, _, q4⟩ := s.cell k _ ex (by intro z; cases z)
      rw [f] at q1; cases q1
      obtain ⟨kvs, q, _⟩ := q4
      exact ⟨by decide, .base (.dK q)⟩
    · rename_i ks us ex
      cases e
      simp only [VR] at r
      obtain ⟨a, rfl, f⟩ := r
      obtain ⟨b, q1, _, _, q4⟩ := s.cell k _ ex (by intro z; cases z)
      rw [f] at q1; cases q1
      obtain ⟨kvs, q, _⟩ := q4
      exact ⟨by decide, .base (.dT q)⟩
    · cases e
  | _ => simp [tyName] at e
/-- isinstance(x, T), isinstance(x, (T, U)) for built-in classes -/
def tysOf : List D → Option (List String)
  | [] => some []
  | .ty n :: r => (tysOf r).map (n :: ·)
  | _ => none
def isiF : List D → Hd → Res O
  | [d, .ty n], h => match tyName h d with
    | some t => if n ∈ tyKnown then .ok (.val (.bl (isT t n))) h else .bad
    | none => .bad
  | [d, .tup ts], h => match tyName h d, tysOf ts with
    | some t, some ns => if ∀ n ∈ ns, n ∈ tyKnown then .ok (.val (.bl (ns.any (isT t)))) h else .bad
    | _, _ => .bad
  | _, _ => .bad
theorem tysOf_ok {c : Ct} {w : Wd} : ∀ {ts : List D} {vs : List V} {ns : List String}, VRs c w ts vs → tysOf ts = some ns → vs = ns.map V.ty
  | [], vs, ns, r, e => by simp only [VRs] at r; simp only [tysOf, Option.some.injEq] at e; subst e; exact r
  | d :: ds, vs, ns, r, e => by
    cases d with
    | ty n =>
      simp only [tysOf, Option.map_eq_some_iff] at e
      obtain ⟨ns', e', rfl⟩ := e
      simp only [VRs] at r
      obtain ⟨v, us, rfl, r1, r2⟩ := r
      simp only [VR] at r1
      rw [r1, tysOf_ok r2 e']; rfl
    | _ => simp [tysOf] at e
theorem kitAny_ok {K : PySem.W.Frag} {t : String} (ht : t ∈ "NoneType" :: tyKnown) : ∀ {ns : List String}, (∀ n ∈ ns, n ∈ tyKnown) → PySem.W.kitAny K (.type t) (ns.map Value.type) = some (ns.any (isT t))
  | [], _ => kitAny_nil
  | n :: ns, hn => by
    have h1 := kit_ty (K := K) (isT_ok ht (hn n List.mem_cons_self))
    have h2 := kitAny_ok (K := K) ht fun m hm => hn m (List.mem_cons_of_mem _ hm)
    rw [List.map_cons, List.any_cons]
    refine kitAny_cons h1 (fun e => ?_) (fun e => ?_)
    · rw [h2, e]; rfl
    · rw [e]; rfl
def rIsiA (K : PySem.W.Frag) : List V → Hp → VK → Prop := fun xs H Q => rIsi K xs H Q ∨ rIsiT K xs H Q ∨ rIsiK K xs H Q
theorem call_isiA {X : Cx} : CallR X (.builtin "isinstance") (rIsiA X.K) := call_isi.or (call_isiT.or call_isiK)
theorem paired_ty : ∀ ns : List String, Paired ClsV (ns.map V.ty) (ns.map Value.type)
  | [] => .nil
  | n :: ns => .cons (.ty n) (paired_ty ns)
theorem s_isi {c : Ct} : CallS c (rIsiA c.K) isiF := fun {w W σ h H vs ds Q} s r p => by
  cases ds with
  | nil => exact p.elim
  | cons d ds =>
    cases ds with
    | nil => exact p.elim
    | cons e ds =>
      cases ds with
      | cons _ _ => cases e <;> exact p.elim
      | nil =>
        obtain ⟨v, u, rfl, r1, r2⟩ := r.two_inv
        cases e with
        | ty n =>
          simp only [isiF] at p
          split at p
          · rename_i t et
            split at p
            · rename_i hn
              obtain ⟨ht, tx⟩ := tyName_ok s r1 et
              simp only [VR] at r2; subst r2
              exact .inl ⟨v, .ty n, .type t, .type n, isT t n, rfl, .ty n, tx, kit_ty (isT_ok ht hn), p.ret (by simp only [RO, VR]) s⟩
            · exact p.elim
          · exact p.elim
        | tup ts =>
          simp only [isiF] at p
          split at p
          · rename_i t ns et en
            split at p
            · rename_i hn
              obtain ⟨ht, tx⟩ := tyName_ok s r1 et
              simp only [VR] at r2
              obtain ⟨a, us, rfl, q, z⟩ := r2
              have eus := tysOf_ok z en
              subst eus
              exact .inr (.inl ⟨v, a, _, .type t, _, _, rfl, s.F _ _ q, paired_ty ns, tx, kitAny_ok ht hn, p.ret (by simp only [RO, VR]) s⟩)
            · exact p.elim
          · exact p.elim
        | _ => exact p.elim
end DD
set_option Elab.async false
set_option linter.all false
set_option maxRecDepth 100000
set_option maxHeartbeats 4000000
namespace DD
open PySem PySem.Spec L2
/-! ## rising lists, each once -/
structure Ord {α : Type} (lt : α → α → Bool) : Prop where
  irr : ∀ a, lt a a = false
  tr : ∀ a b c, lt a b = true → lt b c = true → lt a c = true
  tri : ∀ a b, lt a b = false → lt b a = false → a = b
def insK {α : Type} (lt : α → α → Bool) (x : α) : List α → List α
  | [] => [x]
  | y :: r => if lt x y then x :: y :: r else if lt y x then y :: insK lt x r else y :: r
def sd {α : Type} (lt : α → α → Bool) (l : List α) : List α := l.foldr (insK lt) []
section
variable {α : Type} {lt : α → α → Bool}
theorem insK_mem (o : Ord lt) {x a : α} : ∀ {l : List α}, a ∈ insK lt x l ↔ a = x ∨ a ∈ l
  | [] => by simp [insK]
  | y :: r => by
    unfold insK
    split
    · simp
    · split
      · rw [List.mem_cons, insK_mem o (l := r), List.mem_cons]
        constructor
        · rintro (h | h | h)
          · exact .inr (.inl h)
          · exact .inl h
          · exact .inr (.inr h)
        · rintro (h | h | h)
          · exact .inr (.inl h)
          · exact .inl h
          · exact .inr (.inr h)
      · rename_i h1 h2
        have e : x = y := o.tri x y (by simpa using h1) (by simpa using h2)
        subst e
        simp
theorem sd_mem (o : Ord lt) {a : α} : ∀ {l : List α}, a ∈ sd lt l ↔ a ∈ l
  | [] => by simp [sd]
  | x :: r => by
    show a ∈ insK lt x (sd lt r) ↔ _
    rw [insK_mem o, sd_mem o (l := r), List.mem_cons]
abbrev Rise (lt : α → α → Bool) (l : List α) : Prop := l.Pairwise fun a b => lt a b = true
theorem insK_rise (o : Ord lt) {x : α} : ∀ {l : List α}, Rise lt l → Rise lt (insK lt x l)
  | [], _ => by simp [insK, Rise]
  | y :: r, h => by
    rw [Rise, List.pairwise_cons] at h
    unfold insK
    split
    · rename_i h1
      refine List.Pairwise.cons (fun a ha => ?_) (List.pairwise_cons.mpr h)
      rcases List.mem_cons.mp ha with e | ha
      · rw [e]; exact h1
      · exact o.tr _ _ _ h1 (h.1 a ha)
    · split
      · rename_i h1 h2
        refine List.Pairwise.cons (fun a ha => ?_) (insK_rise o h.2)
        rcases (insK_mem o).1 ha with e | ha
        · rw [e]; exact h2
        · exact h.1 a ha
      · exact List.pairwise_cons.mpr h
theorem sd_rise (o : Ord lt) : ∀ l : List α, Rise lt (sd lt l)
  | [] => by simp [sd, Rise]
  | x :: r => insK_rise o (sd_rise o r)
theorem rise_ext (o : Ord lt) : ∀ {l m : List α}, Rise lt l → Rise lt m → (∀ a, a ∈ l ↔ a ∈ m) → l = m
  | [], [], _, _, _ => rfl
  | [], y :: m, _, _, e => by have := (e y).2 List.mem_cons_self; cases this
  | x :: l, [], _, _, e => by have := (e x).1 List.mem_cons_self; cases this
  | x :: l, y :: m, h, g, e => by
    rw [Rise, List.pairwise_cons] at h g
    have exy : x = y := by
      rcases List.mem_cons.mp ((e x).1 List.mem_cons_self) with q | q
      · exact q
      · rcases List.mem_cons.mp ((e y).2 List.mem_cons_self) with q' | q'
        · exact q'.symm
        · have a := g.1 x q
          have b := h.1 y q'
          exact absurd (o.tr _ _ _ b a) (by rw [o.irr]; decide)
    subst exy
    have irr : ∀ {z : List α}, (∀ a ∈ z, lt x a = true) → x ∉ z := fun hz q => by
      have := hz x q
      rw [o.irr] at this; cases this
    rw [rise_ext o h.2 g.2 fun a => ?_]
    constructor
    · intro q
      rcases List.mem_cons.mp ((e a).1 (List.mem_cons_of_mem _ q)) with z | z
      · rw [z] at q; exact absurd q (irr h.1)
      · exact z
    · intro q
      rcases List.mem_cons.mp ((e a).2 (List.mem_cons_of_mem _ q)) with z | z
      · rw [z] at q; exact absurd q (irr g.1)
      · exact z
end
def ltI (a b : Int) : Bool := decide (a < b)
def ltS (a b : Str) : Bool := decide (a.cps.toList < b.cps.toList)
theorem ordI : Ord ltI := ⟨fun a => by simp [ltI], fun a b c h g => by simp [ltI] at *; omega, fun a b h g => by simp [ltI] at *; omega⟩
theorem str_ext {a b : Str} (h : a.cps.toList = b.cps.toList) : a = b := by
  obtain ⟨x⟩ := a
  obtain ⟨y⟩ := b
  exact congrArg Str.mk (Array.toList_inj.mp h)
theorem ordS : Ord ltS := by
  refine ⟨fun a => ?_, fun a b c h g => ?_, fun a b h g => ?_⟩
  · exact decide_eq_false (List.lt_irrefl _)
  · exact decide_eq_true (List.lt_trans (of_decide_eq_true h) (of_decide_eq_true g))
  · exact str_ext (List.le_antisymm (List.not_lt.mp (of_decide_eq_false g)) (List.not_lt.mp (of_decide_eq_false h)))
/-! ## sorted(set(x)) -/
def keysI : List D → Option (List Int)
  | [] => some []
  | .int i :: r => (keysI r).map (i :: ·)
  | _ => none
def keysS : List D → Option (List Str)
  | [] => some []
  | .str i :: r => (keysS r).map (i :: ·)
  | _ => none
theorem keysI_ok {c : Ct} {w : Wd} : ∀ {ds : List D} {vs : List V} {ks : List Int}, VRs c w ds vs → keysI ds = some ks → vs = ks.map V.int
  | [], vs, bs, r, e => by simp only [VRs] at r; simp only [keysI, Option.some.injEq] at e; subst e; exact r
  | d :: ds, vs, bs, r, e => by
    cases d with
    | int b =>
      simp only [keysI, Option.map_eq_some_iff] at e
      obtain ⟨bs', e', rfl⟩ := e
      simp only [VRs] at r
      obtain ⟨v, us, rfl, r1, r2⟩ := r
      simp only [VR] at r1
      rw [r1, keysI_ok r2 e']; rfl
    | _ => simp [keysI] at e
theorem keysS_ok {c : Ct} {w : Wd} : ∀ {ds : List D} {vs : List V} {ks : List Str}, VRs c w ds vs → keysS ds = some ks → vs = ks.map V.str
  | [], vs, bs, r, e => by simp only [VRs] at r; simp only [keysS, Option.some.injEq] at e; subst e; exact r
  | d :: ds, vs, bs, r, e => by
    cases d with
    | str b =>
      simp only [keysS, Option.map_eq_some_iff] at e
      obtain ⟨bs', e', rfl⟩ := e
      simp only [VRs] at r
      obtain ⟨v, us, rfl, r1, r2⟩ := r
      simp only [VR] at r1
      rw [r1, keysS_ok r2 e']; rfl
    | _ => simp [keysS] at e
def tSS (K : PySem.W.Frag) (ta : TE) : TE := fun σ H Q => ta σ H fun x H1 => ∃ (l : Addr) (ks : List Key), x = .ref l ∧ (SqL K H1 l (ks.map kV) ∨ SqT K H1 l (ks.map kV)) ∧ ks.length + 1 < scanBound ∧
  ((∃ ns : List Int, ks = ns.map Sum.inl ∧ ∀ p, H1 p = none → Q (.ref p) (upd H1 p (.lst ((sd ltI ns).map V.int)))) ∨ (∃ ss : List Str, ks = ss.map Sum.inr ∧ ∀ p, H1 p = none → Q (.ref p) (upd H1 p (.lst ((sd ltS ss).map V.str)))))
theorem keys_paired : ∀ {ks : List Key} {us : List Value}, Vals (ks.map kV) us → Paired (fun k v => keyIs k v = true) ks us
  | [], _, .nil => .nil
  | .inl i :: ks, _, .cons r t => by
    obtain ⟨tk, rfl⟩ := r
    exact .cons (keyIs_int i tk) (keys_paired t)
  | .inr x :: ks, _, .cons r t => by
    obtain ⟨tk, rfl⟩ := r
    exact .cons (keyIs_str x tk) (keys_paired t)
theorem sortedS_rise : ∀ {l : List Str}, PyProof.Rows.sortedS l = true → l.Nodup → Rise ltS l
  | [], _, _ => .nil
  | [x], _, _ => by simp [Rise]
  | x :: y :: r, h, n => by
    have h' : PyProof.Rows.risingS x (y :: r) = true := h
    simp only [PyProof.Rows.risingS, Bool.and_eq_true, Bool.not_eq_true'] at h'
    have nd := List.nodup_cons.mp n
    have ih := sortedS_rise (l := y :: r) h'.2 nd.2
    have hxy : ltS x y = true := by
      cases q : ltS x y with
      | true => rfl
      | false =>
        have e : ltS y x = false := by
          have := h'.1
          rw [PyProof.Rows.ltCps_eq] at this
          exact this
        exact absurd (ordS.tri x y q e) (by rintro rfl; exact nd.1 List.mem_cons_self)
    refine List.Pairwise.cons (fun a ha => ?_) ih
    rcases List.mem_cons.mp ha with e | ha
    · rw [e]; exact hxy
    · exact ordS.tr _ _ _ hxy ((List.pairwise_cons.mp ih).1 a ha)
theorem kIn_map_inl {ns : List Int} {x : Str} : kIn (ns.map Sum.inl) (.inr x) = false := by
  cases q : kIn (ns.map Sum.inl) (.inr x) with
  | false => rfl
  | true =>
    obtain ⟨_, _, e⟩ := List.mem_map.mp (kIn_iff.1 q)
    cases e
theorem kIn_map_inr {ns : List Str} {x : Int} : kIn (ns.map Sum.inr) (.inl x) = false := by
  cases q : kIn (ns.map Sum.inr) (.inl x) with
  | false => rfl
  | true =>
    obtain ⟨_, _, e⟩ := List.mem_map.mp (kIn_iff.1 q)
    cases e
theorem pe_sortedSet {X : Cx} {a : Expr} {ta : TE} {p p2 q pos : Pos} (hg : Gl X "sorted") (hm : X.mg "sorted" = none) (hg2 : Gl X "set") (hm2 : X.mg "set" = none) (ha : PE X a ta) (hc : X.calm = true)
    (na : starEach [a] X.env = (false, eval a X.env) :: starEach [] X.env := by rfl) : PE X (.Call (.Name "sorted" p) [.Call (.Name "set" p2) [a] [] q] [] pos) (tSS X.K ta) := by
  refine ⟨fun pins s σ H Q I h => ?_⟩
  refine PyProof.Rows.Call_ (ld_blt I hg hm PyProof.Rows.boot_sorted ?_)
  refine PyProof.Rows.callWith_builtin1 (PyProof.Rows.args_cons ?_ rfl) rfl rfl
  refine PyProof.Rows.Call_ (ld_blt I hg2 hm2 PyProof.Rows.boot_set ?_)
  refine PyProof.Rows.callWith_type1 (PyProof.Rows.args_cons (thn (ha.run pins s σ H _ I h) fun v s1 ⟨x, H1, I1, r1, q1⟩ => PyProof.Rows.args_nil ?_) na) na rfl
  obtain ⟨l, ks, rfl, hq, hb, q1⟩ := q1
  cases r1
  have fin : ∀ (h' : Heap) (tk c : Nat), SetM X.w h' s1.heap.objs.size (kIn ks) c → c ≤ ks.length → (∀ b o, s1.heap.get? b = some o → h'.get? b = some o) →
      wpAny (model X.prog X.w) X.A (call (.builtin "sorted") [.ref s1.heap.objs.size]) (EP X pins σ Q) X.xe { s1 with heap := h', toks := tk } := fun h' tk c R hc' hk => by
    have hz : c ≤ sizeLine := by rw [sizeLine_eq]; unfold scanBound at hb; omega
    have I2 : Inv X pins σ H1 { s1 with heap := h', toks := tk } := I1.kept hk
    have lay : ∀ (s' : Shared) (p : Addr) (out : Array Value) (n : Nat) (vs : List V), (∀ b o, h'.get? b = some o → s'.heap.get? b = some o) → s'.gens = s1.gens → s'.os = s1.os → h'.objs.size ≤ p →
        s'.heap.get? p = some (PyProof.Rows.seqObj "list" out n) → Vals vs out.toList → vs.length ≤ sizeLine → (∀ p, H1 p = none → Q (.ref p) (upd H1 p (.lst vs))) → EP X pins σ Q (.ref p) s' := fun s' p out n vs k1 k2 k3 k4 k5 k6 k7 k8 => by
      have hn : H1 p = none := I2.hok.fresh k4
      refine ⟨.ref p, upd H1 p (.lst vs), ?_, rfl, k8 p hn⟩
      refine I2.call' (ch := []) k3 (Un.laid k1 k4 hn) (I2.hok.laid k1 k4 ⟨k7, out.toList, n, k6, by rw [Array.toArray_toList]; exact k5⟩) ?_ (fun _ z => by cases z)
      rw [k2]; exact I1.bare
    rcases q1 with ⟨ns, rfl, q1⟩ | ⟨ss, rfl, q1⟩
    · refine sortedM_int R (I1.ok.hd hc) (fun x => kIn_map_inl) fun s' p out n ns' k1 k2 k3 k4 k5 k6 k7 k8 k9 => ?_
      have e : ns' = sd ltI ns := rise_ext ordI (by simpa [Rise, ltI] using k7) (sd_rise ordI ns) fun a => by
        rw [k8, sd_mem ordI, kIn_iff, List.mem_map]
        exact ⟨fun ⟨x, h, e⟩ => Sum.inl.inj e ▸ h, fun h => ⟨a, h, rfl⟩⟩
      subst e
      exact lay s' p out n _ k1 k2 k3 k4 k5 (vals_of_ints k6) (by rw [List.length_map, k9]; exact hz) q1
    · refine sortedM_str R (I1.ok.hd hc) (fun x => kIn_map_inr) fun s' p out n ns' k1 k2 k3 k4 k5 k6 k7 k8 k9 k10 => ?_
      have e : ns' = sd ltS ss := rise_ext ordS (sortedS_rise k7 k8) (sd_rise ordS ss) fun a => by
        rw [k9, sd_mem ordS, kIn_iff, List.mem_map]
        exact ⟨fun ⟨x, h, e⟩ => Sum.inr.inj e ▸ h, fun h => ⟨a, h, rfl⟩⟩
      subst e
      exact lay s' p out n _ k1 k2 k3 k4 k5 (vals_of_strs k6) (by rw [List.length_map, k10]; exact hz) q1
  rcases hq with hq | hq
  · obtain ⟨its, r, pl, hz⟩ := I1.list hq
    exact callM_set_list ks (I1.ok.hd hc) pl.isList (keys_paired r) hb fun h' tk c R hc' hk => PyProof.Rows.args_nil (fin h' tk c R hc' hk)
  · obtain ⟨its, r, pl, hz⟩ := I1.tuple hq
    exact callM_set_tuple ks (I1.ok.hd hc) (show s1.heap.IsTuple l its.toArray from pl) (keys_paired r) hb fun h' tk c R hc' hk => PyProof.Rows.args_nil (fin h' tk c R hc' hk)
def ssF (d : D) (h : Hd) : Res O := match seqOf h d with
  | some xs => if xs.length + 1 < scanBound then (match keysI xs, keysS xs with
    | some ns, _ => .ok (.new (.lst ((sd ltI ns).map .int))) h
    | _, some ss => .ok (.new (.lst ((sd ltS ss).map .str))) h
    | _, _ => .bad) else .bad
  | none => .bad
theorem VRs_ints {c : Ct} {w : Wd} : ∀ l : List Int, VRs c w (l.map D.int) (l.map V.int)
  | [] => .nil
  | z :: l => .cons (by simp only [VR]) (VRs_ints l)
theorem VRs_strs {c : Ct} {w : Wd} : ∀ l : List Str, VRs c w (l.map D.str) (l.map V.str)
  | [] => .nil
  | z :: l => .cons (by simp only [VR]) (VRs_strs l)
def mSS (m : ME) : Env → Hd → Res O := fun ρ h => (m ρ h).bind ssF
theorem e_ss {X : Cx} {W : WX} {a : Expr} {ma : ME} {p p2 q pos : Pos} (hm : X.mg "sorted" = none) (hm2 : X.mg "set" = none) (ha : SE X W a ma) (hc : X.calm = true) (hg : Gl X "sorted" := by rfl) (hg2 : Gl X "set" := by rfl)
    (na : starEach [a] X.env = (false, eval a X.env) :: starEach [] X.env := by rfl) : SO X W (.Call (.Name "sorted" p) [.Call (.Name "set" p2) [a] [] q] [] pos) (mSS ma) :=
  PE.imp (pe_sortedSet hg hm hg2 hm2 ha hc na) fun σ H Q q => by
  refine (tP.bind q).mono fun v H1 ⟨w1, ρ, h1, d, e1, s1, r1, p1⟩ => ?_
  unfold ssF at p1
  split at p1
  · rename_i xs ex
    split at p1
    · rename_i hb
      obtain ⟨l, vs, rfl, hq, z⟩ := seqOf_ok s1 r1 ex
      split at p1
      · rename_i ns e
        have ev : vs = (ns.map Sum.inl : List Key).map kV := by rw [keysI_ok z e, List.map_map]; rfl
        refine ⟨l, ns.map Sum.inl, rfl, by rw [← ev]; exact hq, ?_, .inl ⟨ns, rfl, fun p hp => ?_⟩⟩
        · rw [z.len, ev, List.length_map] at hb; exact hb
        · obtain ⟨s2, r2⟩ := new_obj (z := .lst ((sd ltI ns).map .int)) s1 hp (by intro z; cases z) ⟨_, upd_same, VRs_ints _⟩
          exact p1 _ w1 _ (.refl _) r2 s2
      · rename_i ss _ _
        have ev : vs = (ss.map Sum.inr : List Key).map kV := by rw [keysS_ok z (by assumption), List.map_map]; rfl
        refine ⟨l, ss.map Sum.inr, rfl, by rw [← ev]; exact hq, ?_, .inr ⟨ss, rfl, fun p hp => ?_⟩⟩
        · rw [z.len, ev, List.length_map] at hb; exact hb
        · obtain ⟨s2, r2⟩ := new_obj (z := .lst ((sd ltS ss).map .str)) s1 hp (by intro z; cases z) ⟨_, upd_same, VRs_strs _⟩
          exact p1 _ w1 _ (.refl _) r2 s2
      · exact p1.elim
    · exact p1.elim
  · exact p1.elim
end DD
set_option Elab.async false
set_option linter.all false
set_option maxRecDepth 100000
set_option maxHeartbeats 4000000
namespace DD
open PySem PySem.Spec L2 RZ
/-! ## sources: range, zip -/
def rangeD (lo : Int) (n : Nat) : List D := (List.range n).map fun i => .int (lo + (i : Nat))
theorem srcRange {c : Ct} {w : Wd} {lo : Int} {n : Nat} : SrcOk c w ⟨rangeD lo n, fun _ => True⟩ (Itr lo n) := by
  have hl : (rangeD lo n).length = n := by simp [rangeD]
  refine ⟨_, _, (by rw [hl]; exact walk_range : Walk (Itr lo n) (rangeD lo n).length (fun _ => True) (YFn fun i => .int (lo + (i : Nat)))), fun _ _ _ _ _ _ => trivial, fun i x H2 H3 w2 h2 hi l s ck y => ?_⟩
  obtain ⟨rfl, rfl⟩ := y
  refine ⟨w2, .int (lo + i), .refl _, s, ?_, by simp only [VR]⟩
  rw [hl] at hi
  simp [rangeD, hi]
def range1F : List D → Option Src
  | [.int j] => if -(2 ^ 62) ≤ j ∧ j < 2 ^ 62 then some ⟨rangeD 0 j.toNat, fun _ => True⟩ else none
  | _ => none
def range2F : List D → Option Src
  | [.int i, .int j] => if -(2 ^ 62) ≤ i ∧ i < 2 ^ 62 ∧ -(2 ^ 62) ≤ j ∧ j < 2 ^ 62 then some ⟨rangeD i (j - i).toNat, fun _ => True⟩ else none
  | _ => none
def mSrc (f : Hd → List D → Option Src) (m : MA) : MI := fun ρ h => (m ρ h).bind fun ds h => optR (f h ds) h
theorem range1_inv {ds : List D} {s : Src} (e : range1F ds = some s) : ∃ j : Int, ds = [.int j] ∧ -(2 ^ 62) ≤ j ∧ j < 2 ^ 62 ∧ s = ⟨rangeD 0 j.toNat, fun _ => True⟩ := by
  unfold range1F at e
  split at e
  · split at e
    · rename_i hz; exact ⟨_, rfl, hz.1, hz.2, (Option.some.inj e).symm⟩
    · cases e
  · cases e
theorem range2_inv {ds : List D} {s : Src} (e : range2F ds = some s) : ∃ i j : Int, ds = [.int i, .int j] ∧ (-(2 ^ 62) ≤ i ∧ i < 2 ^ 62 ∧ -(2 ^ 62) ≤ j ∧ j < 2 ^ 62) ∧ s = ⟨rangeD i (j - i).toNat, fun _ => True⟩ := by
  unfold range2F at e
  split at e
  · split at e
    · rename_i hz; exact ⟨_, _, rfl, hz, (Option.some.inj e).symm⟩
    · cases e
  · cases e
/-- of two lists, of two tuples -/
def zipD (xs ys : List D) : List D := (xs.zip ys).map fun p => .tup [p.1, p.2]
def zipF (h : Hd) : List D → Option Src
  | [.tup xs, .tup ys] => some ⟨zipD xs ys, fun _ => True⟩
  | [x, y] => match lstOf h x, lstOf h y with
    | some xs, some ys => some ⟨zipD xs ys, fun h => lstOf h x = some xs ∧ lstOf h y = some ys⟩
    | _, _ => none
  | _ => none
theorem zipD_len (xs ys : List D) : (zipD xs ys).length = min xs.length ys.length := by simp [zipD]
theorem zipD_get {xs ys : List D} {i : Nat} {x y : D} (a : xs[i]? = some x) (b : ys[i]? = some y) : (zipD xs ys)[i]? = some (.tup [x, y]) := by
  have e : (xs.zip ys)[i]? = some (x, y) := List.getElem?_zip_eq_some.mpr ⟨a, b⟩
  simp only [zipD, List.getElem?_map, e, Option.map_some]
theorem srcZ {c : Ct} {w : Wd} {h0 : Hd} {H0 : Hp} {a b : Addr} {vs us : List V} {x y : D} {xs ys : List D} (s0 : SR c w h0 H0) (rx : VR c w x (.ref a)) (ry : VR c w y (.ref b)) :
    SrcOk c w ⟨zipD xs ys, fun h => lstOf h x = some xs ∧ lstOf h y = some ys⟩ (Itz c.K a b) := by
  refine ⟨fun H => ∃ vs us, SqL c.K H a vs ∧ SqL c.K H b us ∧ vs.length = xs.length ∧ us.length = ys.length, fun i H v H' => ∃ T x y, v = .ref T ∧ H T = none ∧ H' = upd H T (.tup [x, y]) ∧ (∀ xs, SqL c.K H a xs → xs[i]? = some x) ∧ ∀ ys, SqL c.K H b ys → ys[i]? = some y,
    ⟨fun i H hi g => ?_, fun H g => ?_, fun i H x H' hi g y => y⟩, fun w2 h2 H2 l s ck => ?_, fun i v H2 H3 w2 h2 hi l s ck y => ?_⟩
  · obtain ⟨vs, us, q1, q2, e1, e2⟩ := g
    rw [zipD_len] at hi
    have h1 : i < vs.length := by omega
    have h2 : i < us.length := by omega
    exact ⟨vs, us, vs[i], us[i], q1, q2, List.getElem?_eq_getElem h1, List.getElem?_eq_getElem h2⟩
  · obtain ⟨vs, us, q1, q2, e1, e2⟩ := g
    refine ⟨vs, us, q1, q2, ?_⟩
    rw [zipD_len]; omega
  · obtain ⟨ck1, ck2⟩ := ck
    obtain ⟨a2, vs2, ea2, q2, z2⟩ := lstOf_ok s (rx.le0 l) ck1
    obtain ⟨b2, us2, eb2, q3, z3⟩ := lstOf_ok s (ry.le0 l) ck2
    cases ea2; cases eb2
    exact ⟨vs2, us2, SqL.of q2, SqL.of q3, z2.len.symm, z3.len.symm⟩
  · obtain ⟨ck1, ck2⟩ := ck
    obtain ⟨a2, vs2, ea2, q2, z2⟩ := lstOf_ok s (rx.le0 l) ck1
    obtain ⟨b2, us2, eb2, q3, z3⟩ := lstOf_ok s (ry.le0 l) ck2
    cases ea2; cases eb2
    obtain ⟨T, p, q, rfl, hn, rfl, y1, y2⟩ := y
    obtain ⟨d1, e1, r1⟩ := z2.get' (y1 _ (SqL.of q2))
    obtain ⟨d2, e2, r2⟩ := z3.get' (y2 _ (SqL.of q3))
    obtain ⟨w3, l3, s3, r3⟩ := new_tup (ds := [d1, d2]) s (.cons r1 (.one r2)) hn
    exact ⟨w3, _, l3, s3, zipD_get e1 e2, r3⟩
theorem srcZT {c : Ct} {w : Wd} {a b : Addr} {vs us : List V} {xs ys : List D} (qa : TpAt c.K w.F a vs) (qb : TpAt c.K w.F b us) (rx : VRs c w xs vs) (ry : VRs c w ys us) : SrcOk c w ⟨zipD xs ys, fun _ => True⟩ (ItzT c.K a b) := by
  refine ⟨fun H => SqT c.K H a vs ∧ SqT c.K H b us, fun i H v H' => ∃ T x y, v = .ref T ∧ H T = none ∧ H' = upd H T (.tup [x, y]) ∧ (∀ xs, SqT c.K H a xs → xs[i]? = some x) ∧ ∀ ys, SqT c.K H b ys → ys[i]? = some y,
    ⟨fun i H hi g => ?_, fun H g => ?_, fun i H x H' hi g y => y⟩, fun w2 h2 H2 l s ck => ?_, fun i v H2 H3 w2 h2 hi l s ck y => ?_⟩
  · rw [zipD_len, rx.len, ry.len] at hi
    have h1 : i < vs.length := by omega
    have h2 : i < us.length := by omega
    exact ⟨vs, us, vs[i], us[i], g.1, g.2, List.getElem?_eq_getElem h1, List.getElem?_eq_getElem h2⟩
  · refine ⟨vs, us, g.1, g.2, ?_⟩
    rw [zipD_len, rx.len, ry.len]; omega
  · have f := fun a o q => s.F a o (l.F a o q)
    exact ⟨SqT_le f qa, SqT_le f qb⟩
  · have f := fun a o q => s.F a o (l.F a o q)
    obtain ⟨T, p, q, rfl, hn, rfl, y1, y2⟩ := y
    obtain ⟨d1, e1, r1⟩ := rx.get' (y1 _ (SqT_le f qa))
    obtain ⟨d2, e2, r2⟩ := ry.get' (y2 _ (SqT_le f qb))
    obtain ⟨w3, l3, s3, r3⟩ := new_tup (ds := [d1, d2]) s (.cons (r1.le0 l) (.one (r2.le0 l))) hn
    exact ⟨w3, _, l3, s3, zipD_get e1 e2, r3⟩
section
variable {X : Cx} {W : WX} {tg e e2 a b : Expr} {mas : MA} {ma mb : ME} {ta : MT} {x : Str} {p pos tpos : Pos}
theorem i_range1 (hm : X.mg "range" = none) (ha : SA X W [a] mas) (hg : Gl X "range" := by rfl) (hs : starEach [a] X.env = [(false, eval a X.env)] := by rfl) : SI X W tg (.Call (.Name "range" p) [a] [] pos) (mSrc (fun _ => range1F) mas) := PI.imp (pi_range1 hg hm ha hs) fun σ H R q => by
  refine (tP.bind q).mono fun vs H1 ⟨w1, ρ, h1, ds, e1, s1, r1, p1⟩ => ?_
  obtain ⟨sr, eo, p2⟩ := optR_post p1
  obtain ⟨j, rfl, hz1, hz2, rfl⟩ := range1_inv eo
  obtain ⟨v, rfl, r⟩ := r1.one_inv
  simp only [VR] at r; subst r
  exact ⟨j, rfl, hz1, hz2, p2 _ w1 H1 (.refl _) srcRange s1⟩
theorem i_range2 (hm : X.mg "range" = none) (ha : SA X W [a, b] mas) (hg : Gl X "range" := by rfl) (hs : starEach [a, b] X.env = [(false, eval a X.env), (false, eval b X.env)] := by rfl) (hs2 : starEach [b] X.env = [(false, eval b X.env)] := by rfl) : SI X W tg (.Call (.Name "range" p) [a, b] [] pos) (mSrc (fun _ => range2F) mas) := PI.imp (pi_range2 hg hm ha hs hs2) fun σ H R q => by
  refine (tP.bind q).mono fun vs H1 ⟨w1, ρ, h1, ds, e1, s1, r1, p1⟩ => ?_
  obtain ⟨sr, eo, p2⟩ := optR_post p1
  obtain ⟨i, j, rfl, hz, rfl⟩ := range2_inv eo
  obtain ⟨v, u, rfl, r, r'⟩ := r1.two_inv
  simp only [VR] at r r'; subst r; subst r'
  exact ⟨i, j, rfl, hz, p2 _ w1 H1 (.refl _) srcRange s1⟩
theorem i_zip {elts : List Expr} {kk : Nat} (hm : X.mg "zip" = none) (ha : SA X W [e, e2] mas) (hg : Gl X "zip" := by rfl)
    (hs : starEach [e, e2] X.env = (false, eval e X.env) :: starEach [e2] X.env := by rfl) (hpl : (backTo pos (starEach [e2] X.env)).any (·.1) = false := by rfl) : SI X W (.Tuple elts kk tpos) (.Call (.Name "zip" p) [e, e2] [] pos) (mSrc zipF mas) := PI.imp (pi_zipA hg hm ha hs hpl) fun σ H R q => by
  refine (tP.bind q).mono fun vs H1 ⟨w1, ρ, h1, ds, e1, s1, r1, p1⟩ => ?_
  obtain ⟨sr, eo, p2⟩ := optR_post p1
  have fin : ∀ J, SrcOk (Cx.ct X) w1 sr J → R J H1 := fun J k => p2 J w1 H1 (.refl _) k s1
  have lists : ∀ x y, ds = [x, y] → (match lstOf h1 x, lstOf h1 y with | some xs, some ys => some (⟨zipD xs ys, fun h => lstOf h x = some xs ∧ lstOf h y = some ys⟩ : Src) | _, _ => none) = some sr →
      ∃ a b xs ys, vs = [.ref a, .ref b] ∧ ((SqL X.K H1 a xs ∧ SqL X.K H1 b ys ∧ R (Itz X.K a b) H1) ∨ (SqT X.K H1 a xs ∧ SqT X.K H1 b ys ∧ R (ItzT X.K a b) H1)) := fun x y e eo' => by
    subst e
    split at eo'
    · rename_i xs ys ex ey
      cases eo'
      obtain ⟨v, u, rfl, r, r'⟩ := r1.two_inv
      obtain ⟨a, vs, rfl, q1, z1⟩ := lstOf_ok s1 r ex
      obtain ⟨b, us, rfl, q2, z2⟩ := lstOf_ok s1 r' ey
      exact ⟨a, b, vs, us, rfl, .inl ⟨SqL.of q1, SqL.of q2, fin _ (srcZ (vs := vs) (us := us) s1 r r')⟩⟩
    · cases eo'
  match ds, eo with
  | [], eo => simp [zipF] at eo
  | [_], eo => simp [zipF] at eo
  | _ :: _ :: _ :: _, eo => simp [zipF] at eo
  | [x, y], eo =>
    cases x with
    | tup xs => cases y with
      | tup ys =>
        cases eo
        obtain ⟨v, u, rfl, r, r'⟩ := r1.two_inv
        simp only [VR] at r r'
        obtain ⟨a, vs, rfl, q1, z1⟩ := r
        obtain ⟨b, us, rfl, q2, z2⟩ := r'
        exact ⟨a, b, vs, us, rfl, .inr ⟨SqT_le s1.F q1, SqT_le s1.F q2, fin _ (srcZT q1 q2 z1 z2)⟩⟩
      | _ => exact lists _ _ rfl eo
    | _ => exact lists _ _ rfl eo

/-! ## join -/
def joinF (a : Str) (y : D) (h : Hd) : Res O := match (lstOf h y).bind keysS with
  | some ss => if (ss.map (·.length)).sum + ss.length * a.length ≤ 16777216 then .ok (.val (.str (Txt.join a ss))) h else .bad
  | none => .bad
def onStr {α : Type} (f : Str → Hd → Res α) : D → Hd → Res α
  | .str a, h => f a h
  | _, _ => .bad
def mJoin (ma mb : ME) : Env → Hd → Res O := fun ρ h => (ma ρ h).bind <| onStr fun a h => (mb ρ h).bind fun y h => joinF a y h
theorem e_join {apos : Pos} (ha : SE X W a ma) (hb : SE X W b mb) (hs : starEach [b] X.env = [(false, eval b X.env)] := by rfl) (hbase : attributeBase a "join" X.env (eval a X.env) = eval a X.env := by rfl) (hline : (apos.endLine == pos.line) = true := by rfl) :
    SO X W (.Call (.Attribute a "join" apos) [b] [] pos) (mJoin ma mb) := PE.imp (pe_join ha hb hs hbase hline) fun σ H Q q => by
  refine (tP.bind (k := fun ρ => onStr fun a h => (mb ρ h).bind fun y h => joinF a y h) q).mono fun v H1 ⟨w1, ρ, h1, d, e1, s1, r1, p1⟩ => ?_
  cases d with
  | str z =>
    simp only [VR] at r1
    refine ⟨⟨z, r1⟩, w1, ρ, h1, e1, s1, (Post.bind (k := joinF z) p1).mono fun u H2 ⟨w2, h2, d2, l2, r2, s2, p2⟩ => ?_⟩
    unfold joinF at p2
    split at p2
    · rename_i ss es
      rw [Option.bind_eq_some_iff] at es
      obtain ⟨xs, ex, ek⟩ := es
      split at p2
      · rename_i hz
        obtain ⟨l, vs, rfl, q1, z1⟩ := lstOf_ok s2 r2 ex
        exact ⟨z, l, ss, r1, rfl, .inl (SqL.of (by rw [q1, keysS_ok z1 ek])), hz, p2.ret (by simp only [RO, VR]) s2⟩
      · exact p2.elim
    · exact p2.elim
  | _ => exact p1.elim
end
end DD
set_option Elab.async false
set_option linter.all false
set_option maxRecDepth 100000
set_option maxHeartbeats 4000000
namespace DD
open PySem PySem.Spec L2 RZ
/-! ## chains -/
def mChain (f f' : D → D → Hd → Res Bool) (ma mb mc : ME) : MT := fun ρ h => (ma ρ h).bind fun x h => (mb ρ h).bind fun y h => (f x y h).bind fun k h => if k then ((mc ρ h).bind fun z h => f' y z h) else .ok false h
section
variable {X : Cx} {W : WX} {a b c e : Expr} {es : List Expr} {ma mb mc : ME} {mas : MA} {pos p : Pos} {x : Str}
theorem chain_rd {ct : Ct} {r r' : R2} {f f' : D → D → Hd → Res Bool} (hs : OpB ct r f) (hs' : OpB ct r' f') (mono : ∀ x y H (Q Q' : VK), (∀ v H, Q v H → Q' v H) → r x y H Q → r x y H Q') {σ : L2.St} {H : Hp} {Q : Bool → Hp → Prop} (q : tT ct W (mChain f f' ma mb mc) σ H Q) :
    tChain r r' (tE ct W ma) (tE ct W mb) (tE ct W mc) σ H fun v H' => ∃ k, v = .bl k ∧ Q k H' := by
  refine (tP.bind q).mono fun v H1 ⟨w1, ρ, h1, d, e1, s1, r1, p1⟩ => ?_
  refine ⟨w1, ρ, h1, e1, s1, (Post.bind p1).mono fun u H2 ⟨w2, h2, d2, l2, r2, s2, p2⟩ => ?_⟩
  refine mono _ _ _ _ _ (fun z H3 ⟨k, e, q3⟩ => ⟨k, e, ?_⟩) (hs s2 (r1.le l2) r2 (Post.bind (R := RB) p2))
  obtain ⟨w3, h3, k', l3, ek, s3, p3⟩ := q3
  cases ek
  cases k with
  | false => exact ⟨false, rfl, p3.ret rfl s3⟩
  | true => exact ⟨w3, ρ, h3, (e1.le l2).le l3, s3, (Post.bind p3).mono fun z H4 ⟨w4, h4, d4, l4, r4, s4, p4⟩ => hs' s4 ((r2.le l3).le l4) r4 p4⟩
theorem t_chain {op op' : CmpOp} {r r' : R2} {f f' : D → D → Hd → Res Bool} (ho : OpR X (compareOp op) r) (ho' : OpR X (compareOp op') r') (hs : OpB (Cx.ct X) r f) (hs' : OpB (Cx.ct X) r' f') (mono : ∀ x y H (Q Q' : VK), (∀ v H, Q v H → Q' v H) → r x y H Q → r x y H Q')
    (ha : SE X W a ma) (hb : SE X W b mb) (hc : SE X W c mc) (hm : lastMarks [op, op'] [b, c] = false := by with_unfolding_all rfl) : ST X W (.Compare a [op, op'] [b, c] pos) (mChain f f' ma mb mc) :=
  PT.imp (pt_chain ho ho' ha hb hc hm) fun σ H Q q => chain_rd hs hs' mono q
theorem tB_post {ct : Ct} {m : MT} {σ : L2.St} {H : Hp} {Q : VK} (q : tE ct W (mB m) σ H Q) : tT ct W m σ H fun b H' => Q (.bl b) H' := by
  refine (tP.bind (R := RB) q).mono fun b H1 ⟨w1, ρ, h1, d, e1, s1, r1, p1⟩ => ?_
  cases r1
  exact p1.ret (by simp only [VR]) s1
theorem tChain_mono {r r' : R2} {ta tb tc : TE} {σ : L2.St} {H : Hp} {Q Q' : VK} (hta : ∀ σ H (Q Q' : VK), (∀ v H, Q v H → Q' v H) → ta σ H Q → ta σ H Q') (htb : ∀ σ H (Q Q' : VK), (∀ v H, Q v H → Q' v H) → tb σ H Q → tb σ H Q') (htc : ∀ σ H (Q Q' : VK), (∀ v H, Q v H → Q' v H) → tc σ H Q → tc σ H Q')
    (m : ∀ x y H (Q Q' : VK), (∀ v H, Q v H → Q' v H) → r x y H Q → r x y H Q') (m' : ∀ x y H (Q Q' : VK), (∀ v H, Q v H → Q' v H) → r' x y H Q → r' x y H Q') (i : ∀ v H, Q v H → Q' v H) (h : tChain r r' ta tb tc σ H Q) : tChain r r' ta tb tc σ H Q' :=
  hta _ _ _ _ (fun x H1 h => htb _ _ _ _ (fun y H2 h => m _ _ _ _ _ (fun z H3 ⟨k, e, h⟩ => ⟨k, e, by
    cases k with
    | true => exact htc _ _ _ _ (fun _ _ h => m' _ _ _ _ _ i h) h
    | false => exact i _ _ h⟩) h) h) h
theorem e_chain {op op' : CmpOp} {r r' : R2} {f f' : D → D → Hd → Res Bool} (ho : OpR X (compareOp op) r) (ho' : OpR X (compareOp op') r') (hs : OpB (Cx.ct X) r f) (hs' : OpB (Cx.ct X) r' f') (mono : ∀ x y H (Q Q' : VK), (∀ v H, Q v H → Q' v H) → r x y H Q → r x y H Q') (mono' : ∀ x y H (Q Q' : VK), (∀ v H, Q v H → Q' v H) → r' x y H Q → r' x y H Q')
    (ha : SE X W a ma) (hb : SE X W b mb) (hc : SE X W c mc) (hm : lastMarks [op, op'] [b, c] = false := by with_unfolding_all rfl) : SE X W (.Compare a [op, op'] [b, c] pos) (mB (mChain f f' ma mb mc)) :=
  PE.imp (pe_chain ho ho' ha hb hc hm) fun σ H Q q => tChain_mono (fun _ _ _ _ i h => tP.mono h i) (fun _ _ _ _ i h => tP.mono h i) (fun _ _ _ _ i h => tP.mono h i) mono mono' (fun v H ⟨k, e, q⟩ => e ▸ q) (chain_rd hs hs' mono (tB_post q))

/-! ## defs -/
def spM (c : Ct) (n : Nat) (m : List D → Hd → Res D) : Sp := fun vs H Q E => ∃ w ds h, VRs c w ds vs ∧ SR c w h H ∧ ds.length = n ∧ Post (RV c) c w (fun cls d _ H' => E cls d H') [] (m ds h) Q
def mCall (n : Nat) (m : List D → Hd → Res D) (ma : MA) : ME := fun ρ h => (ma ρ h).bind fun ds h => if ds.length = n then m ds h else .bad
theorem call_rd {ct : Ct} {n : Nat} {m : List D → Hd → Res D} {σ : L2.St} {H : Hp} {Q : VK} (q : tE ct W (mCall n m mas) σ H Q) : tCallSD (spM ct n m) [] (WE W) (tAr ct W mas) σ H Q := by
  refine (tP.bind q).mono fun vs H1 ⟨w1, ρ, h1, ds, e1, s1, r1, p1⟩ => ?_
  split at p1
  · rename_i hl
    rw [List.append_nil]
    refine ⟨w1, ds, h1, r1, s1, hl, ?_⟩
    cases q : m ds h1 with
    | ok d h2 => rw [q] at p1; exact p1
    | exc x h2 => rw [q] at p1; exact p1
    | bad => rw [q] at p1; exact p1
  · exact p1.elim
theorem e_call {k : Nat} {f : Addr} {fd : FuncData} {ps : List Str} {n : Nat} {m : List D → Hd → Res D} (F : FnOk X.prog X.w X.K X.mg X.base (L2.CX X.prog X.w) k f fd ps (spM (Cx.ct X) n m)) (hr : Room k X.A) (hm : X.mg x = some (.ref f)) (hk : PySem.W.keepIn X.K (.ref f) = true) (hb : Binds X.K fd ps []) (tk : Takes X W)
    (ha : SA X W (e :: es) mas) (hg : Gl X x := by rfl) (hdb : (x == ("__debug__" : Str)) = false := by decide) (he : starEach (e :: es) X.env = (false, eval e X.env) :: starEach es X.env := by rfl) (hpl : (backTo pos (starEach es X.env)).any (·.1) = false := by rfl) :
    SE X W (.Call (.Name x p) (e :: es) [] pos) (mCall n m mas) := PE.imp (pe_callSD (E := WE W) F hr hg hm hk hb .nil (passAt tk) ha hdb he hpl) fun σ H Q q => call_rd q
end
def startD (n : Nat) (ds : List D) : Env := ds.map some ++ List.replicate (n - ds.length) none
theorem ER.start {c : Ct} {w : Wd} {N : List Str} {ds : List D} {vs : List V} (r : VRs c w ds vs) : ER c w (startD N.length ds) (L2.start N vs) := by
  refine ⟨by simp [startD, L2.start, r.len], fun i d e => ?_⟩
  unfold startD at e
  unfold L2.start
  by_cases hi : i < ds.length
  · rw [List.getElem?_append_left (by simpa using hi), List.getElem?_map] at e
    have e' : ds[i]? = some d := by
      cases q : ds[i]? with
      | none => rw [q] at e; cases e
      | some z => rw [q] at e; cases e; rfl
    obtain ⟨v, q, z⟩ := r.get e'
    have hv : i < vs.length := by rw [← r.len]; exact hi
    exact ⟨v, by rw [List.getElem?_append_left (by simpa using hv), List.getElem?_map, q]; rfl, z⟩
  · rw [List.getElem?_append_right (by simpa using hi)] at e
    rw [List.getElem?_replicate] at e
    split at e <;> cases e
def runB (n : Nat) (b : MS) (ds : List D) (h : Hd) : Res D := match b (startD n ds) h with
  | .nx _ h => .ok .non h
  | .rt d h => .ok d h
  | .exc x _ h => .exc x h
  | _ => .bad
section
variable {P : Program} {w : World} {K : PySem.W.Frag} {mg : Str → Option Value} {base : Heap}
/-- the rule for a def -/
theorem fn_ok {x qual : Str} {st : Stmt} {f : Addr} {fd : FuncData} {N ps : List Str} {k : Nat} {b : MS} (F : Fun K x qual st f fd) (S : FnScope N ps (defScope st))
    (hbody : ∀ (cdv : Value) (A : Around) (outer : List PySem.Env) (s : Shared) (H : Hp) (E : XK), Room k (A.deeper (PyProof.Rows.envOfC qual (defScope st) s.heap.objs.size f cdv)) →
      SSs (cxOf (L2.CX P w) P w K mg base N qual (defScope st) f cdv A outer s H E) (fun cls d _ H => E cls d H) (defBody st) b) : FnOk P w K mg base (L2.CX P w) (k + 1) f fd ps (spM ⟨K, mg⟩ ps.length (runB N.length b)) := by
  refine F.okX S (fun vs H Q E ⟨w, ds, h, r, s, hl, p⟩ => by rw [← r.len]; exact hl) (fun cdv A outer s H vs Q E hr ⟨w', ds, h, r, sr, hl, p⟩ => ?_)
  refine ⟨_, hbody cdv A outer s H E hr, w', startD N.length ds, h, ER.start r, sr, ?_⟩
  unfold runB at p
  cases q : b (startD N.length ds) h with
  | nx ρ h1 => rw [q] at p; exact fun σ w2 H2 l e s => p .non w2 H2 l (by simp only [VR]) s
  | rt d h1 => rw [q] at p; exact p
  | bk ρ h1 => rw [q] at p; exact p.elim
  | ct ρ h1 => rw [q] at p; exact p.elim
  | exc x ρ h1 => rw [q] at p; exact fun cls dx σ w2 H2 l e s x => p cls dx w2 H2 l s x
  | bad => rw [q] at p; exact p
end
/-- the law's end -/
def spL (K : PySem.W.Frag) : Sp := fun vs H Q _ => ∃ (a : Addr) (ns : List Int), vs = [.ref a] ∧ SqL K H a (ns.map V.int) ∧ ns.length ≤ 63 ∧ Only H ∧ ∀ H', Q (.bl true) H'
end DD
set_option Elab.async false
set_option linter.all false
set_option maxRecDepth 100000
set_option maxHeartbeats 4000000
namespace DD
open PySem PySem.Spec L2 RZ
theorem hu64 {k : Nat} {A : Around} (hr : Room k A) : A.units + 64 < cLine := hr.units
theorem hu65 {k : Nat} {A : Around} (hr : Room k A) : A.units + 65 < cLine := by have := hr.un; omega
section
variable {X : Cx} {W : WX} {a b c e e2 : Expr} {es : List Expr} {ma mb mc : ME} {ta : MT} {mas : MA} {m : Env → Hd → Res O} {sb : MS} {pos p : Pos} {x : Str} {k : Nat}
/-! comparisons, in short -/
theorem mono_eqA {K : PySem.W.Frag} (x y : V) (H : Hp) (Q Q' : VK) (i : ∀ v H, Q v H → Q' v H) : rEqA K x y H Q → rEqA K x y H Q' := Or.imp (fun h => ⟨h.1, i _ _ h.2⟩) (fun ⟨d, e, a1, a2, a3, a4, a5, a6⟩ => ⟨d, e, a1, a2, a3, a4, a5, i _ _ a6⟩)
theorem mono_neA {K : PySem.W.Frag} (x y : V) (H : Hp) (Q Q' : VK) (i : ∀ v H, Q v H → Q' v H) : rNeA K x y H Q → rNeA K x y H Q' := Or.imp (fun h => ⟨h.1, i _ _ h.2⟩) (fun ⟨d, e, a1, a2, a3, a4, a5, a6⟩ => ⟨d, e, a1, a2, a3, a4, a5, i _ _ a6⟩)
theorem mono_I0 {g : Int → Int → V} (x y : V) (H : Hp) (Q Q' : VK) (i : ∀ v H, Q v H → Q' v H) : rI0 g x y H Q → rI0 g x y H Q' := fun ⟨a, b, c, d, e⟩ => ⟨a, b, c, d, i _ _ e⟩
theorem mono_ltA (x y : V) (H : Hp) (Q Q' : VK) (i : ∀ v H, Q v H → Q' v H) : rLtA x y H Q → rLtA x y H Q' := Or.imp (mono_I0 x y H Q Q' i) (fun ⟨a, b, c, d, e⟩ => ⟨a, b, c, d, i _ _ e⟩)
theorem mono_is {f : V → Bool} (x y : V) (H : Hp) (Q Q' : VK) (i : ∀ v H, Q v H → Q' v H) : (y = .non ∧ Q (.bl (f x)) H) → (y = .non ∧ Q' (.bl (f x)) H) := fun h => ⟨h.1, i _ _ h.2⟩
theorem mono_rIn {K : PySem.W.Frag} {n : Bool} (x y : V) (H : Hp) (Q Q' : VK) (i : ∀ v H, Q v H → Q' v H) : rIn K n x y H Q → rIn K n x y H Q' := fun ⟨p, xs, a, b, c, d, q⟩ => ⟨p, xs, a, b, c, d, i _ _ q⟩
theorem mono_inA {K : PySem.W.Frag} (x y : V) (H : Hp) (Q Q' : VK) (i : ∀ v H, Q v H → Q' v H) : rInA K x y H Q → rInA K x y H Q' :=
  Or.imp (fun ⟨a, b, c, d, e⟩ => ⟨a, b, c, d, i _ _ e⟩) (Or.imp (fun ⟨a, b, c, d, e⟩ => ⟨a, b, c, d, i _ _ e⟩) (Or.imp (mono_rIn x y H Q Q' i) (fun ⟨a, b, c, d, e, f, g⟩ => ⟨a, b, c, d, e, f, i _ _ g⟩)))
theorem mono_notInA {K : PySem.W.Frag} (x y : V) (H : Hp) (Q Q' : VK) (i : ∀ v H, Q v H → Q' v H) : rNotInA K x y H Q → rNotInA K x y H Q' :=
  Or.imp (fun ⟨a, b, c, d, e⟩ => ⟨a, b, c, d, i _ _ e⟩) (Or.imp (fun ⟨a, b, c, d, e⟩ => ⟨a, b, c, d, i _ _ e⟩) (Or.imp (mono_rIn x y H Q Q' i) (fun ⟨a, b, c, d, e, f, g⟩ => ⟨a, b, c, d, e, f, i _ _ g⟩)))
theorem e_eq (hr : Room k X.A) (ha : SE X W a ma) (hb : SE X W b mb) : SE X W (.Compare a [.Eq] [b] pos) (mB (mCmp cEq ma mb)) := e_cmp mono_eqA (op_eqA (hu64 hr)) s_eq ha hb (nomark _)
theorem e_ne (hr : Room k X.A) (ha : SE X W a ma) (hb : SE X W b mb) : SE X W (.Compare a [.NotEq] [b] pos) (mB (mCmp cNe ma mb)) := e_cmp mono_neA (op_neA (hu64 hr)) s_ne ha hb (nomark _)
theorem e_lt (ha : SE X W a ma) (hb : SE X W b mb) : SE X W (.Compare a [.Lt] [b] pos) (mB (mCmp cLt ma mb)) := e_cmp mono_ltA op_ltA s_lt ha hb (nomark _)
theorem e_le (ha : SE X W a ma) (hb : SE X W b mb) : SE X W (.Compare a [.LtE] [b] pos) (mB (mCmp cLe ma mb)) := e_cmp mono_I0 op_le s_le ha hb (nomark _)
theorem e_gt (ha : SE X W a ma) (hb : SE X W b mb) : SE X W (.Compare a [.Gt] [b] pos) (mB (mCmp cGt ma mb)) := e_cmp mono_I0 op_gt s_gt ha hb (nomark _)
theorem e_ge (ha : SE X W a ma) (hb : SE X W b mb) : SE X W (.Compare a [.GtE] [b] pos) (mB (mCmp cGe ma mb)) := e_cmp mono_I0 op_ge s_ge ha hb (nomark _)
theorem e_is (ha : SE X W a ma) (hb : SE X W b mb) : SE X W (.Compare a [.Is] [b] pos) (mB (mCmp cIs ma mb)) := e_cmp mono_is op_isN s_is ha hb (nomark _)
theorem e_isnot (ha : SE X W a ma) (hb : SE X W b mb) : SE X W (.Compare a [.IsNot] [b] pos) (mB (mCmp cIsNot ma mb)) := e_cmp mono_is op_notN s_isnot ha hb (nomark _)
theorem e_in (hr : Room k X.A) (ha : SE X W a ma) (hb : SE X W b mb) (hm : behindInMarks .In b = false := by rfl) : SE X W (.Compare a [.In] [b] pos) (mB (mCmp cIn ma mb)) := e_cmp mono_inA (op_inA (hu65 hr)) s_in ha hb hm
theorem e_notin (hr : Room k X.A) (ha : SE X W a ma) (hb : SE X W b mb) (hm : behindInMarks .NotIn b = false := by rfl) : SE X W (.Compare a [.NotIn] [b] pos) (mB (mCmp cNotIn ma mb)) := e_cmp mono_notInA (op_notInA (hu65 hr)) s_notin ha hb hm
theorem t_eq (hr : Room k X.A) (ha : SE X W a ma) (hb : SE X W b mb) : ST X W (.Compare a [.Eq] [b] pos) (mCmp cEq ma mb) := t_cmp (op_eqA (hu64 hr)) s_eq ha hb (nomark _)
theorem t_ne (hr : Room k X.A) (ha : SE X W a ma) (hb : SE X W b mb) : ST X W (.Compare a [.NotEq] [b] pos) (mCmp cNe ma mb) := t_cmp (op_neA (hu64 hr)) s_ne ha hb (nomark _)
theorem t_lt (ha : SE X W a ma) (hb : SE X W b mb) : ST X W (.Compare a [.Lt] [b] pos) (mCmp cLt ma mb) := t_cmp op_ltA s_lt ha hb (nomark _)
theorem t_le (ha : SE X W a ma) (hb : SE X W b mb) : ST X W (.Compare a [.LtE] [b] pos) (mCmp cLe ma mb) := t_cmp op_le s_le ha hb (nomark _)
theorem t_gt (ha : SE X W a ma) (hb : SE X W b mb) : ST X W (.Compare a [.Gt] [b] pos) (mCmp cGt ma mb) := t_cmp op_gt s_gt ha hb (nomark _)
theorem t_ge (ha : SE X W a ma) (hb : SE X W b mb) : ST X W (.Compare a [.GtE] [b] pos) (mCmp cGe ma mb) := t_cmp op_ge s_ge ha hb (nomark _)
theorem t_is (ha : SE X W a ma) (hb : SE X W b mb) : ST X W (.Compare a [.Is] [b] pos) (mCmp cIs ma mb) := t_cmp op_isN s_is ha hb (nomark _)
theorem t_isnot (ha : SE X W a ma) (hb : SE X W b mb) : ST X W (.Compare a [.IsNot] [b] pos) (mCmp cIsNot ma mb) := t_cmp op_notN s_isnot ha hb (nomark _)
theorem t_in (hr : Room k X.A) (ha : SE X W a ma) (hb : SE X W b mb) (hm : behindInMarks .In b = false := by rfl) : ST X W (.Compare a [.In] [b] pos) (mCmp cIn ma mb) := t_cmp (op_inA (hu65 hr)) s_in ha hb hm
theorem t_notin (hr : Room k X.A) (ha : SE X W a ma) (hb : SE X W b mb) (hm : behindInMarks .NotIn b = false := by rfl) : ST X W (.Compare a [.NotIn] [b] pos) (mCmp cNotIn ma mb) := t_cmp (op_notInA (hu65 hr)) s_notin ha hb hm
theorem e_lele (ha : SE X W a ma) (hb : SE X W b mb) (hc : SE X W c mc) (hm : lastMarks [.LtE, .LtE] [b, c] = false := by with_unfolding_all rfl) : SE X W (.Compare a [.LtE, .LtE] [b, c] pos) (mB (mChain cLe cLe ma mb mc)) := e_chain op_le op_le s_le s_le mono_I0 mono_I0 ha hb hc hm
theorem t_lele (ha : SE X W a ma) (hb : SE X W b mb) (hc : SE X W c mc) (hm : lastMarks [.LtE, .LtE] [b, c] = false := by with_unfolding_all rfl) : ST X W (.Compare a [.LtE, .LtE] [b, c] pos) (mChain cLe cLe ma mb mc) := t_chain op_le op_le s_le s_le mono_I0 ha hb hc hm
/-! operators, in short -/
theorem o_add (ha : SE X W a ma) (hb : SE X W b mb) : SO X W (.BinOp a .Add b pos) (mBin addF ma mb) := e_bin op_addA s_add ha hb
theorem o_sub (ha : SE X W a ma) (hb : SE X W b mb) : SO X W (.BinOp a .Sub b pos) (mBin subF ma mb) := e_bin op_sub s_sub ha hb
theorem o_mul (ha : SE X W a ma) (hb : SE X W b mb) : SO X W (.BinOp a .Mult b pos) (mBin mulF ma mb) := e_bin op_mulA s_mul ha hb
theorem o_fdiv (ha : SE X W a ma) (hb : SE X W b mb) : SO X W (.BinOp a .FloorDiv b pos) (mBin fdivF ma mb) := e_bin op_fdivW s_fdiv ha hb
theorem o_mod (ha : SE X W a ma) (hb : SE X W b mb) : SO X W (.BinOp a .Mod b pos) (mBin modF ma mb) := e_bin op_mod s_mod ha hb
theorem o_pow (ha : SE X W a ma) (hb : SE X W b mb) : SO X W (.BinOp a .Pow b pos) (mBin powF ma mb) := e_bin op_pow s_pow ha hb
/-! constants of the top -/
theorem e_globI {i : Int} (hm : ∃ t, X.mg x = some (.int i t)) (hg : Gl X x := by rfl) (hd : (x == ("__debug__" : Str)) = false := by decide) : SE X W (.Name x p) (mC (.int i)) := by
  obtain ⟨t, hm⟩ := hm
  exact e_glob (v := .int i) hm ⟨t, rfl⟩ (fun w => by simp only [VR]) hg hd
theorem e_globS {z : Str} (hm : ∃ t, X.mg x = some (.str z t)) (hg : Gl X x := by rfl) (hd : (x == ("__debug__" : Str)) = false := by decide) : SE X W (.Name x p) (mC (.str z)) := by
  obtain ⟨t, hm⟩ := hm
  exact e_glob (v := .str z) hm ⟨t, rfl⟩ (fun w => by simp only [VR]) hg hd
/-! a list comprehension given to a name -/
theorem fz_rd (hm : ∀ ρ h z h', m ρ h = .ok (.new z) h' → isDc z = false) {ct : Ct} {σ : L2.St} {H : Hp} {Q : VK} (q : tE ct W (mFz m) σ H Q) : tP (RO ct) ct W m σ H Q := by
  obtain ⟨w, ρ, h, e, s, p⟩ := q
  refine ⟨w, ρ, h, e, s, ?_⟩
  unfold mFz at p
  cases q : m ρ h with
  | ok o h1 =>
    rw [q] at p
    intro v w1 H1 l r s1
    cases o with
    | val d => exact p v w1 H1 l r s1
    | new z =>
      obtain ⟨g, a, rfl, f, k⟩ := r
      obtain ⟨o, eo⟩ := k.some g
      obtain ⟨l2, s'⟩ := s1.fz f eo (k.plain g eo)
      exact p _ _ _ (l.trans l2) (VR_fz (od := ⟨.none, none, .fields #[], #[]⟩) k g eo l2 (by unfold fzO; rw [if_neg (by rw [hm _ _ _ _ q]; decide)]; show upd w1.F a o a = some o; exact upd_same)) s'
  | exc x h1 => rw [q] at p; exact p
  | bad => rw [q] at p; exact p
theorem mLc_lst {vs : List Nat} {mi : MI} {g : MG} {t : MT} {e : ME} : ∀ ρ h z h', mLc vs mi g t e ρ h = .ok (.new z) h' → isDc z = false := fun ρ h z h' q => by
  unfold mLc at q
  cases q1 : mi ρ h with
  | ok s h1 =>
    rw [q1] at q
    have q' : (lcGo s.chk g t e (wipeD ρ vs) s.items [] h1).bind (fun ds h => Res.ok (O.new (.lst ds)) h) = .ok (.new z) h' := q
    cases q2 : lcGo s.chk g t e (wipeD ρ vs) s.items [] h1 with
    | ok ds h2 => rw [q2] at q'; cases q'; rfl
    | exc x h2 => rw [q2] at q'; cases q'
    | bad => rw [q2] at q'; cases q'
  | exc x h1 => rw [q1] at q; cases q
  | bad => rw [q1] at q; cases q
theorem own_rd {ct : Ct} {σ : L2.St} {H : Hp} {Q : VK} (q : tE ct W (mOwn m) σ H Q) : tP (RO ct) ct W m σ H Q := by
  refine (tP.bind q).mono fun v H1 ⟨w1, ρ, h1, o, e, s, r, p⟩ => ?_
  cases o with
  | val d => exact p.ret r s
  | new z =>
    obtain ⟨g, a, rfl, f, k⟩ := r
    obtain ⟨l, s', r'⟩ := s.own f g k
    exact p _ _ _ l r' s'
theorem set_rd {ct : Ct} {i : Nat} {Dn : Ends} {σ : L2.St} {H : Hp} (q : tS ct W (mSet i ma) Dn σ H) : tE ct W ma σ H fun v H1 => Dn.nx (σ.set i (some v)) H1 := by
  refine (tS.lift q).mono fun v H1 ⟨w1, ρ, h1, d, e1, s1, r1, p1⟩ => ?_
  exact p1.nx (e1.set i r1) s1
variable {elt tg iter : Expr} {ifs : List Expr} {scope : Scope} {own : List (Str × Nat)} {mi : MI} {g : MG} {t : MT} {me : ME} {ix vs : List Nat} {py spos : Pos} {y : Str}
theorem s_lcFz (i : Nat) (hc : X.calm = true) (hN : X.N.Nodup) (hi : SI X W tg iter mi) (ok : BlkOk X.N X.env.scope scope own)
    (hg : ∀ (s : Shared) (H : Hp) (C : Addr) (cl : List (Str × Addr)) (fp : List Addr), SG (X.blk s H scope (compEnvC scope cl C X.env) fp) W0 ix tg g) (ht : ∀ (s : Shared) (H : Hp) (C : Addr) (cl : List (Str × Addr)) (fp : List Addr), STs (X.blk s H scope (compEnvC scope cl C X.env) fp) W0 ifs t)
    (he : ∀ (s : Shared) (H : Hp) (C : Addr) (cl : List (Str × Addr)) (fp : List Addr), SE (X.blk s H scope (compEnvC scope cl C X.env) fp) W0 elt me) (hy : X.N[i]? = some y := by rfl) (hyl : X.env.scope.names.lookup y = some .local := by rfl)
    (hsw : swapsWith (.ListComp elt [⟨tg, iter, ifs, 0⟩] scope pos) (some (.Name y py)) spos.line X.env = pure true := by exact sw_true rfl rfl rfl (by decide +kernel)) (hix : ∀ i ∈ ix, i ∈ own.map (·.2) := by decide) (hs : ∀ x, foldedSetIterable iter X.env x = pure x := by intro _; rfl) (hv : own.map (·.2) = vs := by rfl) :
    SS X W (.Assign [.Name y py] (.ListComp elt [⟨tg, iter, ifs, 0⟩] scope pos) spos) (mSet i (mFz (mLc vs mi g t me))) := by
  subst hv
  exact PS.imp (ps_setLc (g := tG (Cx.ct X) W0 ix g) (tt := tT (Cx.ct X) W0 t) (te := tE (Cx.ct X) W0 me) hc hN hy hyl hsw hi ok hg ht he hs) fun Dn σ H q => lc_rd hix (fz_rd mLc_lst (set_rd q))
theorem s_lcOwn (i : Nat) (hc : X.calm = true) (hN : X.N.Nodup) (hi : SI X W tg iter mi) (ok : BlkOk X.N X.env.scope scope own)
    (hg : ∀ (s : Shared) (H : Hp) (C : Addr) (cl : List (Str × Addr)) (fp : List Addr), SG (X.blk s H scope (compEnvC scope cl C X.env) fp) W0 ix tg g) (ht : ∀ (s : Shared) (H : Hp) (C : Addr) (cl : List (Str × Addr)) (fp : List Addr), STs (X.blk s H scope (compEnvC scope cl C X.env) fp) W0 ifs t)
    (he : ∀ (s : Shared) (H : Hp) (C : Addr) (cl : List (Str × Addr)) (fp : List Addr), SE (X.blk s H scope (compEnvC scope cl C X.env) fp) W0 elt me) (hy : X.N[i]? = some y := by rfl) (hyl : X.env.scope.names.lookup y = some .local := by rfl)
    (hsw : swapsWith (.ListComp elt [⟨tg, iter, ifs, 0⟩] scope pos) (some (.Name y py)) spos.line X.env = pure true := by exact sw_true rfl rfl rfl (by decide +kernel)) (hix : ∀ i ∈ ix, i ∈ own.map (·.2) := by decide) (hs : ∀ x, foldedSetIterable iter X.env x = pure x := by intro _; rfl) (hv : own.map (·.2) = vs := by rfl) :
    SS X W (.Assign [.Name y py] (.ListComp elt [⟨tg, iter, ifs, 0⟩] scope pos) spos) (mSet i (mOwn (mLc vs mi g t me))) := by
  subst hv
  exact PS.imp (ps_setLc (g := tG (Cx.ct X) W0 ix g) (tt := tT (Cx.ct X) W0 t) (te := tE (Cx.ct X) W0 me) hc hN hy hyl hsw hi ok hg ht he hs) fun Dn σ H q => lc_rd hix (own_rd (set_rd q))
end
/-! ## the law's end -/
/-- what is no table -/
def unT : Option HO → Option HO
  | some (.tbl _) => none
  | o => o
theorem unT_some {o : Option HO} {u : HO} (h : unT o = some u) : o = some u ∧ ∀ ps, u ≠ .tbl ps := by
  cases o with
  | none => cases h
  | some v =>
    cases v <;> first | (cases h; done) | (cases h; exact ⟨rfl, fun ps z => by cases z⟩)
theorem unT_of {u : HO} (h : ∀ ps, u ≠ .tbl ps) : unT (some u) = some u := by
  cases u <;> first | rfl | exact absurd rfl (h _)
theorem SqL_unT {K : PySem.W.Frag} {H : Hp} {a : Addr} {vs : List V} (h : SqL K H a vs) : SqL K (fun b => DD.unT (H b)) a vs := by
  rcases h with (h | ⟨o, h⟩) | h
  · exact .inl (.inl (by show DD.unT (H a) = _; rw [h]; rfl))
  · exact .inl (.inr ⟨o, by show DD.unT (H a) = _; rw [h]; rfl⟩)
  · exact .inr h
/-- the first state: the script, the tables -/
theorem sr_first {c : Ct} {H : Hp} (t : ∀ P, lawTab c.K c.mg P → H P = some (.tbl #[])) : SR c ⟨fun b => unT (H b), fun _ => none, fun _ => none⟩ [] H :=
  ⟨fun _ _ e => (unT_some e).1, fun _ _ e => (by cases e), fun _ _ e => (by cases e), fun r z e => (by simp at e), fun _ _ _ e => (by cases e), fun _ _ e => (by cases e),
    ⟨fun P l => ⟨⟨#[], t P l, True.intro, fun pos cv z => by
      have z' : codeAmong pos [] = some cv := z
      simp [codeAmong] at z'⟩, by show unT (H P) = none; rw [t P l]; rfl, rfl, fun r z => by cases z⟩, fun a o e => (unT_some e).2, fun a o e => by cases e⟩, fun r z e => by simp at e⟩
theorem law_end {P : Program} {w : World} {K : PySem.W.Frag} {mg : Str → Option Value} {base : Heap} {k : Nat} {f : Addr} {fd : FuncData} {ps : List Str} {m : List D → Hd → Res D} (F : FnOk P w K mg base (L2.CX P w) k f fd ps (spM ⟨K, mg⟩ 1 m))
    (h : ∀ ns : List Int, ns.length ≤ 63 → ∃ h', m [.rol (ns.map .int)] [] = .ok (.bl true) h') (off : lamOn = false := by rfl) : FnOk P w K mg base (L2.CX P w) k f fd ps (spL K) :=
  F.imp fun vs H Q E ⟨a, ns, e, hq, hl, hO, q⟩ => by
    subst e
    obtain ⟨h', eh⟩ := h ns hl
    refine ⟨_, [.rol (ns.map .int)], [], .one ?_, sr_first fun P l => absurd l.1 (by rw [off]; decide), rfl, ?_⟩
    · simp only [VR]; exact ⟨a, ns.map V.int, rfl, SqL_unT hq, VRs_ints ns⟩
    · rw [eh]
      intro v w' H' l r s
      simp only [VR] at r
      subst r
      exact q H'
theorem walkD {l : PySem.W.OpenLaw} {q : Program} {loose : List Str} {XP : (Str → Option Value) → Heap → Prop} {YP : World → Heap → Prop} {d : DefRec} {K : Params → PySem.W.Frag} {k : Nat} {x : Str} (hn : l.most = some 63) (hdf : d.params.defaults = []) (hr : Room k callerA)
    (hY : ∀ (w : World) (h : Heap), YP w h → (K w.params).In h)
    (F : ∀ (w : World) (mg : Str → Option Value) (fa : Addr) (h : Heap), (K w.params).In h → h.Ns mainGlobals mg → mg d.name = some (.ref fa) →
      ∃ fd : FuncData, (∀ (s : Shared) (u : Value), BindsTo s fd ⟨[u], []⟩ [(x, u)]) ∧ ∀ base : Heap, (K w.params).In base → base.Ns mainGlobals mg → FnOk l.prog w (K w.params) mg base (L2.CX l.prog w) k fa fd [x] (spL (K w.params))) :
    PySem.W.WalkO q loose XP YP l.row.toRowW d [] (fun f vs => PySem.call f vs) :=
  L2.walk_of (n := 63) (k := k) (x := x) (CX := fun w => L2.CX l.prog w) (sp := fun w => spL (K w.params)) hn (by decide) hdf hr hY F (fun _ _ a ns hl hO hS => ⟨a, ns, rfl, hS, hl, hO, fun _ => rfl⟩) fun _ _ _ _ _ z => by
    obtain ⟨_, _, _, _, _, _, _, _, _, _, _, _, z⟩ := z
    exact z
end DD
namespace DD
open PySem PySem.Spec L2 RZ
/-! ## what has no rule here -/
def mBad : ME := fun _ _ => .bad
def mBadS : MS := fun _ _ => .bad
section
variable {X : Cx} {W : WX} {e : Expr} {st : Stmt} {sts : List Stmt} {pos p : Pos} {ma : ME}
theorem e_bad : SE X W e mBad := ⟨fun _ _ _ _ _ _ ⟨_, _, _, _, _, p⟩ => p.elim⟩
theorem s_bad : SS X W st mBadS := ⟨fun _ _ _ _ _ _ ⟨_, _, _, _, _, p⟩ => p.elim⟩
theorem ss_bad : SSs X W sts mBadS := ⟨fun _ _ _ _ _ _ ⟨_, _, _, _, _, p⟩ => p.elim⟩
def mNeg (m : ME) : ME := fun ρ h => (m ρ h).bind fun d h => match d with
  | .int i => .ok (.int (-i)) h
  | _ => .bad
theorem e_neg (ha : SE X W e ma) : SE X W (.UnaryOp .USub e pos) (mNeg ma) := PE.imp (pe_un un_neg ha) fun σ H Q q => by
  refine (tP.bind q).mono fun v H1 ⟨w1, ρ, h1, d, e1, s1, r1, p1⟩ => ?_
  cases d with
  | int i => simp only [VR] at r1; exact ⟨i, r1, p1.ret (by simp only [VR]) s1⟩
  | _ => exact p1.elim
def mDict0 : Env → Hd → Res O := fun _ h => .ok (.new (.dct [] [])) h
theorem e_dict0 {pos : Pos} : SO X W (.Dict [] [] pos) mDict0 := PE.imp pe_dnewK fun σ H Q ⟨w, ρ, h, e, s, p⟩ d hd => by
  obtain ⟨s2, r2⟩ := new_obj (z := .dct [] []) (o := .dK []) s hd (by intro z; cases z) ⟨[], upd_same, rfl, .nil⟩
  exact p _ w _ (.refl _) r2 s2
def mDictT : Env → Hd → Res O := fun _ h => .ok (.new (.dtt [] [])) h
theorem e_dictT {pos : Pos} : SO X W (.Dict [] [] pos) mDictT := PE.imp pe_dnewT fun σ H Q ⟨w, ρ, h, e, s, p⟩ d hd => by
  obtain ⟨s2, r2⟩ := new_obj (z := .dtt [] []) (o := .dT []) s hd (by intro z; cases z) ⟨[], upd_same, rfl, .nil⟩
  exact p _ w _ (.refl _) r2 s2
end
/-! ## defs by name -/
structure Callee (P : Program) (w : World) (K : PySem.W.Frag) (mg : Str → Option Value) (base : Heap) (k : Nat) (x : Str) (n : Nat) (m : List D → Hd → Res D) : Prop where
  ex : ∃ (f : Addr) (fd : FuncData) (ps : List Str), FnOk P w K mg base (L2.CX P w) k f fd ps (spM ⟨K, mg⟩ n m) ∧ mg x = some (.ref f) ∧ PySem.W.keepIn K (.ref f) = true ∧ Binds K fd ps []
structure DefAt (K : PySem.W.Frag) (mg : Str → Option Value) (x : Str) (st : Stmt) (ps : List Str) (f : Addr) (fd : FuncData) : Prop where
  F : Fun K x x st f fd
  m : mg x = some (.ref f)
  b : Binds K fd ps []
section
variable {P : Program} {w : World} {K : PySem.W.Frag} {mg : Str → Option Value} {base : Heap} {x : Str} {st : Stmt} {ps : List Str} {f : Addr} {fd : FuncData} {k n : Nat} {m : List D → Hd → Res D}
theorem DefAt.callee (A : DefAt K mg x st ps f fd) (F : FnOk P w K mg base (L2.CX P w) k f fd ps (spM ⟨K, mg⟩ n m)) : Callee P w K mg base k x n m := ⟨f, fd, ps, F, A.m, A.F.kp, A.b⟩
theorem Callee.mono {j : Nat} (C : Callee P w K mg base j x n m) (h : j ≤ k) : Callee P w K mg base k x n m :=
  let ⟨f, fd, ps, F, a, b, c⟩ := C.ex
  ⟨f, fd, ps, F.mono h, a, b, c⟩
theorem def_mk {h : Heap} {oc : Value} {od an : Option Addr} {osl : Array (Option Value)} {kV doc pm cdv ct : Value} (X : K.In h) (G : h.Ns mainGlobals mg) (a : PySem.W.nsIn K mainGlobals x = some (some (.ref f)))
    (l : K.lookup f = some ⟨oc, od, .func (PySem.W.fnOf x x (defArgs st) (defBody st) (defScope st) .none kV doc pm an cdv ct), osl⟩) (c : PySem.W.codeIn K cdv x = true) (k : PySem.W.keepIn K (.ref f) = true)
    (hb : ∀ (kV doc pm : Value) (an : Option Addr) (cdv ct : Value) (us : List Value), us.length = ps.length → bindArgs (PySem.W.fnOf x x (defArgs st) (defBody st) (defScope st) .none kV doc pm an cdv ct) ⟨us, []⟩ = pure (ps.zip us)) :
    DefAt K mg x st ps f (PySem.W.fnOf x x (defArgs st) (defBody st) (defScope st) .none kV doc pm an cdv ct) :=
  have F := fun_mk (st := st) l c k
  ⟨F, PySem.W.mg_of X G a, F.binds hb⟩
end
section
variable {X : Cx} {W : WX} {e : Expr} {es : List Expr} {mas : MA} {pos p : Pos} {x : Str} {k n : Nat} {m : List D → Hd → Res D}
theorem e_callC (C : Callee X.prog X.w X.K X.mg X.base k x n m) (hr : Room k X.A) (tk : Takes X W) (ha : SA X W (e :: es) mas) (hg : Gl X x := by rfl) (hdb : (x == ("__debug__" : Str)) = false := by decide)
    (he : starEach (e :: es) X.env = (false, eval e X.env) :: starEach es X.env := by rfl) (hpl : (backTo pos (starEach es X.env)).any (·.1) = false := by rfl) : SE X W (.Call (.Name x p) (e :: es) [] pos) (mCall n m mas) := by
  obtain ⟨f, fd, ps, F, hm, hk, hb⟩ := C.ex
  exact e_call F hr hm hk hb tk ha hg hdb he hpl
end
end DD
set_option Elab.async false
set_option linter.all false
set_option maxRecDepth 100000
set_option maxHeartbeats 4000000
namespace DD
open PySem PySem.Spec L2 RZ
/-! ## running the combinators by simp: no lambda is met before its argument stands -/
section
variable {α β : Type} {a : α} {h : Hd} {ρ : Env}
@[simp] theorem Res.bind_ok (a : α) (h : Hd) (k : α → Hd → Res β) : (Res.ok a h).bind k = k a h := rfl
@[simp] theorem Res.bind_exc (x : Xc) (h : Hd) (k : α → Hd → Res β) : (Res.exc x h : Res α).bind k = .exc x h := rfl
@[simp] theorem Res.bind_bad (k : α → Hd → Res β) : (Res.bad : Res α).bind k = .bad := rfl
@[simp] theorem optR_some (a : α) (h : Hd) : optR (some a) h = .ok a h := rfl
@[simp] theorem optR_none (h : Hd) : optR (none : Option α) h = .bad := rfl
end
section
variable {h : Hd} {ρ : Env} {d e : D} {ma mb mc : ME} {ta tb : MT} {mas : MA} {mo : Env → Hd → Res O} {sa sb : MS} {i j : Nat} {f : D → D → Hd → Res O} {g g' : D → D → Hd → Res Bool} {fs : List D → Hd → Res O}
def varK (h : Hd) : Option (Option D) → Res D
  | some (some d) => .ok d h
  | _ => .bad
@[simp] theorem varK_some (d : D) : varK h (some (some d)) = .ok d h := rfl
@[simp] theorem mVar_k (i : Nat) (ρ : Env) (h : Hd) : mVar i ρ h = varK h ρ[i]? := by
  unfold mVar varK; split <;> simp_all
@[simp] theorem mC_k (d : D) (ρ : Env) (h : Hd) : mC d ρ h = .ok d h := rfl
def fzK : Res O → Res D
  | .ok o h => .ok o.fz h
  | .exc x h => .exc x h
  | .bad => .bad
@[simp] theorem fzK_ok (o : O) (h : Hd) : fzK (.ok o h) = .ok o.fz h := rfl
@[simp] theorem mFz_k (m : Env → Hd → Res O) (ρ : Env) (h : Hd) : mFz m ρ h = fzK (m ρ h) := by unfold mFz fzK; cases m ρ h <;> rfl
@[simp] theorem fz_val (d : D) : (O.val d).fz = d := rfl
@[simp] theorem fz_lst (xs : List D) : (O.new (.lst xs)).fz = .lst xs := rfl
@[simp] theorem fz_dct (ks us : List D) : (O.new (.dct ks us)).fz = .dct ks us := rfl
def ownK : Res O → Res D
  | .ok o h => ownO o h
  | .exc x h => .exc x h
  | .bad => .bad
@[simp] theorem ownK_val (d : D) (h : Hd) : ownK (.ok (.val d) h) = .ok d h := rfl
@[simp] theorem ownK_new (z : Cell) (h : Hd) : ownK (.ok (.new z) h) = .ok (.ref h.length) (h ++ [z]) := rfl
@[simp] theorem mOwn_k (m : Env → Hd → Res O) (ρ : Env) (h : Hd) : mOwn m ρ h = ownK (m ρ h) := by unfold mOwn ownK; cases m ρ h <;> rfl
/-! arguments -/
def consK2 (d : D) : Res (List D) → Res (List D)
  | .ok ds h => .ok (d :: ds) h
  | .exc x h => .exc x h
  | .bad => .bad
def consK (r : MA) (ρ : Env) : Res D → Res (List D)
  | .ok d h => consK2 d (r ρ h)
  | .exc x h => .exc x h
  | .bad => .bad
@[simp] theorem consK2_ok (d : D) (ds : List D) (h : Hd) : consK2 d (.ok ds h) = .ok (d :: ds) h := rfl
@[simp] theorem consK_ok (r : MA) (ρ : Env) (d : D) (h : Hd) : consK r ρ (.ok d h) = consK2 d (r ρ h) := rfl
@[simp] theorem aNil_k (ρ : Env) (h : Hd) : aNil ρ h = .ok [] h := rfl
@[simp] theorem aCons_k (m : ME) (r : MA) (ρ : Env) (h : Hd) : aCons m r ρ h = consK r ρ (m ρ h) := by
  unfold aCons consK
  cases m ρ h with
  | ok d h => simp only [Res.bind_ok]; unfold consK2; cases r ρ h <;> rfl
  | _ => rfl
def tupK : Res (List D) → Res D
  | .ok ds h => if ds.length ≤ sizeLine then .ok (.tup ds) h else .bad
  | .exc x h => .exc x h
  | .bad => .bad
theorem sz_small {n : Nat} (h : n ≤ 1000) : n ≤ sizeLine := Nat.le_trans h (by decide)
theorem sz_big {n : Nat} (h : n ≤ 100000) : n ≤ sizeLine := Nat.le_trans h (by decide)
@[simp] theorem tupK_ok (ds : List D) (h : Hd) : tupK (.ok ds h) = if ds.length ≤ sizeLine then .ok (.tup ds) h else .bad := rfl
@[simp] theorem mTup_k (m : MA) (ρ : Env) (h : Hd) : mTup m ρ h = tupK (m ρ h) := by unfold mTup tupK; cases m ρ h <;> rfl
def lstK : Res (List D) → Res O
  | .ok ds h => if ds.length ≤ sizeLine then .ok (.new (.lst ds)) h else .bad
  | .exc x h => .exc x h
  | .bad => .bad
@[simp] theorem lstK_ok (ds : List D) (h : Hd) : lstK (.ok ds h) = if ds.length ≤ sizeLine then .ok (.new (.lst ds)) h else .bad := rfl
@[simp] theorem mLst_k (m : MA) (ρ : Env) (h : Hd) : mLst m ρ h = lstK (m ρ h) := by unfold mLst lstK; cases m ρ h <;> rfl
@[simp] theorem sl0 : (0 ≤ sizeLine) = True := by simp
@[simp] theorem sl1 : (1 ≤ sizeLine) = True := by simp [sizeLine_eq]
@[simp] theorem sl2 : (2 ≤ sizeLine) = True := by simp [sizeLine_eq]
@[simp] theorem sl3 : (3 ≤ sizeLine) = True := by simp [sizeLine_eq]
@[simp] theorem sl4 : (4 ≤ sizeLine) = True := by simp [sizeLine_eq]
@[simp] theorem sl5 : (5 ≤ sizeLine) = True := by simp [sizeLine_eq]
@[simp] theorem sl6 : (6 ≤ sizeLine) = True := by simp [sizeLine_eq]
@[simp] theorem sl7 : (7 ≤ sizeLine) = True := by simp [sizeLine_eq]
@[simp] theorem sl8 : (8 ≤ sizeLine) = True := by simp [sizeLine_eq]
/-! operators, comparisons -/
def binK2 (f : D → D → Hd → Res O) (x : D) : Res D → Res O
  | .ok y h => f x y h
  | .exc x h => .exc x h
  | .bad => .bad
def binK (f : D → D → Hd → Res O) (mb : ME) (ρ : Env) : Res D → Res O
  | .ok x h => binK2 f x (mb ρ h)
  | .exc x h => .exc x h
  | .bad => .bad
@[simp] theorem binK2_ok (x y : D) (h : Hd) : binK2 f x (.ok y h) = f x y h := rfl
@[simp] theorem binK_ok (x : D) (h : Hd) : binK f mb ρ (.ok x h) = binK2 f x (mb ρ h) := rfl
@[simp] theorem mBin_k (f : D → D → Hd → Res O) (ma mb : ME) (ρ : Env) (h : Hd) : mBin f ma mb ρ h = binK f mb ρ (ma ρ h) := by
  unfold mBin binK
  cases ma ρ h with
  | ok d h => simp only [Res.bind_ok]; unfold binK2; cases mb ρ h <;> rfl
  | _ => rfl
def cmpK2 (f : D → D → Hd → Res Bool) (x : D) : Res D → Res Bool
  | .ok y h => f x y h
  | .exc x h => .exc x h
  | .bad => .bad
def cmpK (f : D → D → Hd → Res Bool) (mb : ME) (ρ : Env) : Res D → Res Bool
  | .ok x h => cmpK2 f x (mb ρ h)
  | .exc x h => .exc x h
  | .bad => .bad
@[simp] theorem cmpK2_ok (x y : D) (h : Hd) : cmpK2 g x (.ok y h) = g x y h := rfl
@[simp] theorem cmpK_ok (x : D) (h : Hd) : cmpK g mb ρ (.ok x h) = cmpK2 g x (mb ρ h) := rfl
@[simp] theorem mCmp_k (f : D → D → Hd → Res Bool) (ma mb : ME) (ρ : Env) (h : Hd) : mCmp f ma mb ρ h = cmpK f mb ρ (ma ρ h) := by
  unfold mCmp cmpK
  cases ma ρ h with
  | ok d h => simp only [Res.bind_ok]; unfold cmpK2; cases mb ρ h <;> rfl
  | _ => rfl
def chainK4 (f' : D → D → Hd → Res Bool) (y : D) : Res D → Res Bool
  | .ok z h => f' y z h
  | .exc x h => .exc x h
  | .bad => .bad
def chainK3 (f' : D → D → Hd → Res Bool) (mc : ME) (ρ : Env) (y : D) : Res Bool → Res Bool
  | .ok k h => if k then chainK4 f' y (mc ρ h) else .ok false h
  | .exc x h => .exc x h
  | .bad => .bad
def chainK2 (f f' : D → D → Hd → Res Bool) (mc : ME) (ρ : Env) (x : D) : Res D → Res Bool
  | .ok y h => chainK3 f' mc ρ y (f x y h)
  | .exc x h => .exc x h
  | .bad => .bad
def chainK (f f' : D → D → Hd → Res Bool) (mb mc : ME) (ρ : Env) : Res D → Res Bool
  | .ok x h => chainK2 f f' mc ρ x (mb ρ h)
  | .exc x h => .exc x h
  | .bad => .bad
@[simp] theorem chainK4_ok (y z : D) (h : Hd) : chainK4 g' y (.ok z h) = g' y z h := rfl
@[simp] theorem chainK3_ok (y : D) (k : Bool) (h : Hd) : chainK3 g' mc ρ y (.ok k h) = if k then chainK4 g' y (mc ρ h) else .ok false h := rfl
@[simp] theorem chainK2_ok (x y : D) (h : Hd) : chainK2 g g' mc ρ x (.ok y h) = chainK3 g' mc ρ y (g x y h) := rfl
@[simp] theorem chainK_ok (x : D) (h : Hd) : chainK g g' mb mc ρ (.ok x h) = chainK2 g g' mc ρ x (mb ρ h) := rfl
@[simp] theorem mChain_k (f f' : D → D → Hd → Res Bool) (ma mb mc : ME) (ρ : Env) (h : Hd) : mChain f f' ma mb mc ρ h = chainK f f' mb mc ρ (ma ρ h) := by
  unfold mChain chainK
  cases ma ρ h with
  | ok x h =>
    simp only [Res.bind_ok]; unfold chainK2
    cases mb ρ h with
    | ok y h =>
      simp only [Res.bind_ok]; unfold chainK3
      cases f x y h with
      | ok k h =>
        simp only [Res.bind_ok]
        cases k with
        | true => simp only [if_true]; unfold chainK4; cases mc ρ h <;> rfl
        | false => rfl
      | _ => rfl
    | _ => rfl
  | _ => rfl
def bK : Res Bool → Res D
  | .ok b h => .ok (.bl b) h
  | .exc x h => .exc x h
  | .bad => .bad
@[simp] theorem bK_ok (b : Bool) (h : Hd) : bK (.ok b h) = .ok (.bl b) h := rfl
@[simp] theorem mB_k (m : MT) (ρ : Env) (h : Hd) : mB m ρ h = bK (m ρ h) := by unfold mB bK; cases m ρ h <;> rfl
def truK : Res D → Res Bool
  | .ok d h => optR (truthD h d) h
  | .exc x h => .exc x h
  | .bad => .bad
@[simp] theorem truK_ok (d : D) (h : Hd) : truK (.ok d h) = optR (truthD h d) h := rfl
@[simp] theorem mTru_k (m : ME) (ρ : Env) (h : Hd) : mTru m ρ h = truK (m ρ h) := by unfold mTru truK; cases m ρ h <;> rfl
@[simp] theorem truth_bl (b : Bool) : truthD h (.bl b) = some b := rfl
@[simp] theorem truth_non : truthD h .non = some false := rfl
@[simp] theorem truth_int (n : Int) : truthD h (.int n) = some (n != 0) := rfl
@[simp] theorem truth_tup (xs : List D) : truthD h (.tup xs) = some (!xs.isEmpty) := rfl
@[simp] theorem truth_lst (xs : List D) : truthD h (.lst xs) = some (!xs.isEmpty) := rfl
def notK : Res Bool → Res Bool
  | .ok b h => .ok (!b) h
  | .exc x h => .exc x h
  | .bad => .bad
@[simp] theorem notK_ok (b : Bool) (h : Hd) : notK (.ok b h) = .ok (!b) h := rfl
@[simp] theorem mNot_k (m : MT) (ρ : Env) (h : Hd) : mNot m ρ h = notK (m ρ h) := by unfold mNot notK; cases m ρ h <;> rfl
def andK (k : MT) (ρ : Env) : Res Bool → Res Bool
  | .ok b h => if b then k ρ h else .ok false h
  | .exc x h => .exc x h
  | .bad => .bad
@[simp] theorem andK_ok (b : Bool) (h : Hd) : andK tb ρ (.ok b h) = if b then tb ρ h else .ok false h := rfl
@[simp] theorem mAnd_k (m k : MT) (ρ : Env) (h : Hd) : mAnd m k ρ h = andK k ρ (m ρ h) := by unfold mAnd andK; cases m ρ h <;> rfl
def orK (k : MT) (ρ : Env) : Res Bool → Res Bool
  | .ok b h => if b then .ok true h else k ρ h
  | .exc x h => .exc x h
  | .bad => .bad
@[simp] theorem orK_ok (b : Bool) (h : Hd) : orK tb ρ (.ok b h) = if b then .ok true h else tb ρ h := rfl
@[simp] theorem mOr_k (m k : MT) (ρ : Env) (h : Hd) : mOr m k ρ h = orK k ρ (m ρ h) := by unfold mOr orK; cases m ρ h <;> rfl
def ifK (a b : ME) (ρ : Env) : Res Bool → Res D
  | .ok k h => if k then a ρ h else b ρ h
  | .exc x h => .exc x h
  | .bad => .bad
@[simp] theorem ifK_ok (k : Bool) (h : Hd) : ifK ma mb ρ (.ok k h) = if k then ma ρ h else mb ρ h := rfl
@[simp] theorem mIf_k (t : MT) (a b : ME) (ρ : Env) (h : Hd) : mIf t a b ρ h = ifK a b ρ (t ρ h) := by unfold mIf ifK; cases t ρ h <;> rfl
def andVK (k : ME) (ρ : Env) : Res D → Res D
  | .ok (.bl b) h => if b then k ρ h else .ok (.bl false) h
  | .exc x h => .exc x h
  | _ => .bad
@[simp] theorem andVK_ok (b : Bool) (h : Hd) : andVK mb ρ (.ok (.bl b) h) = if b then mb ρ h else .ok (.bl false) h := rfl
@[simp] theorem mAndV_k (m k : ME) (ρ : Env) (h : Hd) : mAndV m k ρ h = andVK k ρ (m ρ h) := by
  unfold mAndV andVK
  cases m ρ h with
  | ok d h => cases d <;> rfl
  | _ => rfl
def orVK (k : ME) (ρ : Env) : Res D → Res D
  | .ok (.bl b) h => if b then .ok (.bl true) h else k ρ h
  | .exc x h => .exc x h
  | _ => .bad
@[simp] theorem orVK_ok (b : Bool) (h : Hd) : orVK mb ρ (.ok (.bl b) h) = if b then .ok (.bl true) h else mb ρ h := rfl
@[simp] theorem mOrV_k (m k : ME) (ρ : Env) (h : Hd) : mOrV m k ρ h = orVK k ρ (m ρ h) := by
  unfold mOrV orVK
  cases m ρ h with
  | ok d h => cases d <;> rfl
  | _ => rfl
def notVK2 (h : Hd) : Option Bool → Res D
  | some b => .ok (.bl (!b)) h
  | none => .bad
def notVK : Res D → Res D
  | .ok d h => notVK2 h (truthD h d)
  | .exc x h => .exc x h
  | .bad => .bad
@[simp] theorem notVK2_some (b : Bool) : notVK2 h (some b) = .ok (.bl (!b)) h := rfl
@[simp] theorem notVK_ok (d : D) (h : Hd) : notVK (.ok d h) = notVK2 h (truthD h d) := rfl
@[simp] theorem mNotV_k (m : ME) (ρ : Env) (h : Hd) : mNotV m ρ h = notVK (m ρ h) := by
  unfold mNotV notVK
  cases m ρ h with
  | ok d h => simp only [Res.bind_ok]; unfold notVK2; cases truthD h d <;> rfl
  | _ => rfl
/-! items, slices -/
def ixK2 (x : D) : Res D → Res D
  | .ok y h => optR (ixF h x y) h
  | .exc x h => .exc x h
  | .bad => .bad
def ixK (mb : ME) (ρ : Env) : Res D → Res D
  | .ok x h => ixK2 x (mb ρ h)
  | .exc x h => .exc x h
  | .bad => .bad
@[simp] theorem ixK2_ok (x y : D) (h : Hd) : ixK2 x (.ok y h) = optR (ixF h x y) h := rfl
@[simp] theorem ixK_ok (x : D) (h : Hd) : ixK mb ρ (.ok x h) = ixK2 x (mb ρ h) := rfl
@[simp] theorem mIx_k (ma mb : ME) (ρ : Env) (h : Hd) : mIx ma mb ρ h = ixK mb ρ (ma ρ h) := by
  unfold mIx ixK
  cases ma ρ h with
  | ok d h => simp only [Res.bind_ok]; unfold ixK2; cases mb ρ h <;> rfl
  | _ => rfl
def ixL (i : Int) : Option (List D) → Option D
  | some xs => atI xs i
  | none => none
@[simp] theorem ixL_some (i : Int) (xs : List D) : ixL i (some xs) = atI xs i := rfl
@[simp] theorem ixF_tup (xs : List D) (i : Int) : ixF h (.tup xs) (.int i) = atI xs i := rfl
@[simp] theorem ixF_lst (xs : List D) (i : Int) : ixF h (.lst xs) (.int i) = atI xs i := rfl
@[simp] theorem ixF_rol (xs : List D) (i : Int) : ixF h (.rol xs) (.int i) = atI xs i := rfl
@[simp] theorem ixF_ref (r : Nat) (i : Int) : ixF h (.ref r) (.int i) = ixL i (lstOf h (.ref r)) := by
  rw [ixF_seq (by intro s q; cases q)]
  show (lstOf h (.ref r)).bind _ = _
  cases lstOf h (.ref r) <;> rfl
theorem ixF_str (s : Str) (i : Int) (hz : s.length ≤ sizeLine) : ixF h (.str s) (.int i) = (atI s.cps.toList i).map fun c => .str ⟨#[c]⟩ := by
  simp only [ixF, if_pos hz]
def cellL : Option Cell → Option (List D)
  | some (.lst xs) => some xs
  | _ => none
@[simp] theorem cellL_lst (xs : List D) : cellL (some (.lst xs)) = some xs := rfl
@[simp] theorem lstOf_ref (r : Nat) : lstOf h (.ref r) = cellL h[r]? := by
  show (match h[r]? with | some (.lst xs) => some xs | _ => none) = _
  unfold cellL; rfl
@[simp] theorem lstOf_lst (xs : List D) : lstOf h (.lst xs) = some xs := rfl
@[simp] theorem seqOf_lst (xs : List D) : seqOf h (.lst xs) = some xs := rfl
@[simp] theorem seqOf_tup (xs : List D) : seqOf h (.tup xs) = some xs := rfl
@[simp] theorem seqOf_rol (xs : List D) : seqOf h (.rol xs) = some xs := rfl
@[simp] theorem seqOf_ref (r : Nat) : seqOf h (.ref r) = cellL h[r]? := (lstOf_ref r)
def slK3 (d : D) (lo : Option Int) : Res (Option Int) → Res O
  | .ok hi h => optR (slF h d lo hi) h
  | .exc x h => .exc x h
  | .bad => .bad
def slK2 (mh : MO) (ρ : Env) (d : D) : Res (Option Int) → Res O
  | .ok lo h => slK3 d lo (mh ρ h)
  | .exc x h => .exc x h
  | .bad => .bad
def slK (ml mh : MO) (ρ : Env) : Res D → Res O
  | .ok d h => slK2 mh ρ d (ml ρ h)
  | .exc x h => .exc x h
  | .bad => .bad
@[simp] theorem slK3_ok (d : D) (lo hi : Option Int) (h : Hd) : slK3 d lo (.ok hi h) = optR (slF h d lo hi) h := rfl
@[simp] theorem slK2_ok (mh : MO) (d : D) (lo : Option Int) (h : Hd) : slK2 mh ρ d (.ok lo h) = slK3 d lo (mh ρ h) := rfl
@[simp] theorem slK_ok (ml mh : MO) (d : D) (h : Hd) : slK ml mh ρ (.ok d h) = slK2 mh ρ d (ml ρ h) := rfl
@[simp] theorem mSl_k (m : ME) (ml mh : MO) (ρ : Env) (h : Hd) : mSl m ml mh ρ h = slK ml mh ρ (m ρ h) := by
  unfold mSl slK
  cases m ρ h with
  | ok d h =>
    simp only [Res.bind_ok]; unfold slK2
    cases ml ρ h with
    | ok lo h => simp only [Res.bind_ok]; unfold slK3; cases mh ρ h <;> rfl
    | _ => rfl
  | _ => rfl
@[simp] theorem oNone_k (ρ : Env) (h : Hd) : oNone ρ h = .ok none h := rfl
def osK : Res D → Res (Option Int)
  | .ok (.int i) h => .ok (some i) h
  | .exc x h => .exc x h
  | _ => .bad
@[simp] theorem osK_ok (i : Int) (h : Hd) : osK (.ok (.int i) h) = .ok (some i) h := rfl
@[simp] theorem oSome_k (m : ME) (ρ : Env) (h : Hd) : oSome m ρ h = osK (m ρ h) := by
  unfold oSome osK
  cases m ρ h with
  | ok d h => cases d <;> rfl
  | _ => rfl
@[simp] theorem slF_tup (xs : List D) (lo hi : Option Int) : slF h (.tup xs) lo hi = some (.val (.tup (cutL xs lo hi))) := rfl
@[simp] theorem slF_lst (xs : List D) (lo hi : Option Int) : slF h (.lst xs) lo hi = some (.new (.lst (cutL xs lo hi))) := rfl
@[simp] theorem slF_rol (xs : List D) (lo hi : Option Int) : slF h (.rol xs) lo hi = some (.new (.lst (cutL xs lo hi))) := rfl
theorem slF_str (s : Str) (lo hi : Option Int) (hz : s.length ≤ sizeLine) : slF h (.str s) lo hi = some (.val (.str (cutS s lo hi))) := by simp only [slF, if_pos hz]
/-! built-ins, calls -/
def biK (f : List D → Hd → Res O) : Res (List D) → Res O
  | .ok ds h => f ds h
  | .exc x h => .exc x h
  | .bad => .bad
@[simp] theorem biK_ok (ds : List D) (h : Hd) : biK fs (.ok ds h) = fs ds h := rfl
@[simp] theorem mBi_k (f : List D → Hd → Res O) (m : MA) (ρ : Env) (h : Hd) : mBi f m ρ h = biK f (m ρ h) := by unfold mBi biK; cases m ρ h <;> rfl
def callK (n : Nat) (m : List D → Hd → Res D) : Res (List D) → Res D
  | .ok ds h => if ds.length = n then m ds h else .bad
  | .exc x h => .exc x h
  | .bad => .bad
@[simp] theorem callK_ok (n : Nat) (m : List D → Hd → Res D) (ds : List D) (h : Hd) : callK n m (.ok ds h) = if ds.length = n then m ds h else .bad := rfl
@[simp] theorem mCall_k (n : Nat) (m : List D → Hd → Res D) (ma : MA) (ρ : Env) (h : Hd) : mCall n m ma ρ h = callK n m (ma ρ h) := by unfold mCall callK; cases ma ρ h <;> rfl
/-! statements -/
def seqK (b : MS) : Fl → Fl
  | .nx ρ h => b ρ h
  | r => r
@[simp] theorem seqK_nx (b : MS) (ρ : Env) (h : Hd) : seqK b (.nx ρ h) = b ρ h := rfl
@[simp] theorem seqK_rt (b : MS) (d : D) (h : Hd) : seqK b (.rt d h) = .rt d h := rfl
@[simp] theorem seqK_exc (b : MS) (x : Xc) (ρ : Env) (h : Hd) : seqK b (.exc x ρ h) = .exc x ρ h := rfl
@[simp] theorem mSeq_k (a b : MS) (ρ : Env) (h : Hd) : mSeq a b ρ h = seqK b (a ρ h) := by unfold mSeq seqK; cases a ρ h <;> rfl
@[simp] theorem mNil_k (ρ : Env) (h : Hd) : mNil ρ h = .nx ρ h := rfl
def ifSK (a b : MS) (ρ : Env) : Res Bool → Fl
  | .ok k h => if k then a ρ h else b ρ h
  | .exc x h => .exc x ρ h
  | .bad => .bad
@[simp] theorem ifSK_ok (a b : MS) (k : Bool) (h : Hd) : ifSK a b ρ (.ok k h) = if k then a ρ h else b ρ h := rfl
@[simp] theorem mIfS_k (t : MT) (a b : MS) (ρ : Env) (h : Hd) : mIfS t a b ρ h = ifSK a b ρ (t ρ h) := by unfold mIfS liftR ifSK; cases t ρ h <;> rfl
def retK (ρ : Env) : Res D → Fl
  | .ok d h => .rt d h
  | .exc x h => .exc x ρ h
  | .bad => .bad
@[simp] theorem retK_ok (d : D) (h : Hd) : retK ρ (.ok d h) = .rt d h := rfl
@[simp] theorem retK_exc (x : Xc) (h : Hd) : retK ρ (.exc x h) = .exc x ρ h := rfl
@[simp] theorem mRet_k (m : ME) (ρ : Env) (h : Hd) : mRet m ρ h = retK ρ (m ρ h) := by unfold mRet liftR retK; cases m ρ h <;> rfl
@[simp] theorem mRetN_k (ρ : Env) (h : Hd) : mRetN ρ h = .rt .non h := rfl
def exprK (ρ : Env) : Res D → Fl
  | .ok _ h => .nx ρ h
  | .exc x h => .exc x ρ h
  | .bad => .bad
@[simp] theorem exprK_ok (d : D) (h : Hd) : exprK ρ (.ok d h) = .nx ρ h := rfl
@[simp] theorem exprK_exc (x : Xc) (h : Hd) : exprK ρ (.exc x h) = .exc x ρ h := rfl
@[simp] theorem mExpr_k (m : ME) (ρ : Env) (h : Hd) : mExpr m ρ h = exprK ρ (m ρ h) := by unfold mExpr liftR exprK; cases m ρ h <;> rfl
def setK (i : Nat) (ρ : Env) : Res D → Fl
  | .ok d h => .nx (ρ.set i (some d)) h
  | .exc x h => .exc x ρ h
  | .bad => .bad
@[simp] theorem setK_ok (i : Nat) (d : D) (h : Hd) : setK i ρ (.ok d h) = .nx (ρ.set i (some d)) h := rfl
@[simp] theorem setK_exc (i : Nat) (x : Xc) (h : Hd) : setK i ρ (.exc x h) = .exc x ρ h := rfl
@[simp] theorem mSet_k (i : Nat) (m : ME) (ρ : Env) (h : Hd) : mSet i m ρ h = setK i ρ (m ρ h) := by unfold mSet liftR setK; cases m ρ h <;> rfl
def asgK2 (ρ : Env) : Res Env → Fl
  | .ok ρ h => .nx ρ h
  | .exc x h => .exc x ρ h
  | .bad => .bad
def asgK (g : MG) (ρ : Env) : Res D → Fl
  | .ok d h => asgK2 ρ (g d ρ h)
  | .exc x h => .exc x ρ h
  | .bad => .bad
@[simp] theorem asgK2_ok (ρ ρ1 : Env) (h : Hd) : asgK2 ρ (.ok ρ1 h) = .nx ρ1 h := rfl
@[simp] theorem asgK_ok (g : MG) (d : D) (h : Hd) : asgK g ρ (.ok d h) = asgK2 ρ (g d ρ h) := rfl
@[simp] theorem asgK_exc (g : MG) (x : Xc) (h : Hd) : asgK g ρ (.exc x h) = .exc x ρ h := rfl
@[simp] theorem mAsg_k (m : ME) (g : MG) (ρ : Env) (h : Hd) : mAsg m g ρ h = asgK g ρ (m ρ h) := by
  unfold mAsg liftR asgK
  cases m ρ h with
  | ok d h => simp only []; unfold asgK2; cases g d ρ h <;> rfl
  | _ => rfl
/-! targets -/
@[simp] theorem gSet_k (i : Nat) (d : D) (ρ : Env) (h : Hd) : gSet i d ρ h = .ok (ρ.set i (some d)) h := rfl
@[simp] theorem gsNil_k (ρ : Env) (h : Hd) : gsNil [] ρ h = .ok ρ h := rfl
def gsK (gs : MGs) (r : List D) : Res Env → Res Env
  | .ok ρ h => gs r ρ h
  | .exc x h => .exc x h
  | .bad => .bad
@[simp] theorem gsK_ok (gs : MGs) (r : List D) (ρ : Env) (h : Hd) : gsK gs r (.ok ρ h) = gs r ρ h := rfl
@[simp] theorem gsCons_k (g : MG) (gs : MGs) (d : D) (r : List D) (ρ : Env) (h : Hd) : gsCons g gs (d :: r) ρ h = gsK gs r (g d ρ h) := by
  show (g d ρ h).bind _ = _
  unfold gsK; cases g d ρ h <;> rfl
@[simp] theorem gTupM_k (n : Nat) (gs : MGs) (xs : List D) (ρ : Env) (h : Hd) : gTupM n gs (.tup xs) ρ h = if xs.length = n then gs xs ρ h else .bad := rfl
def gSubK3 (ρ : Env) : Option Hd → Res Env
  | some h => .ok ρ h
  | none => .bad
def gSubK2 (d : D) (ρ : Env) (o : D) : Res D → Res Env
  | .ok i h => gSubK3 ρ (setF o i d h)
  | .exc x h => .exc x h
  | .bad => .bad
def gSubK (mi : ME) (d : D) (ρ : Env) : Res D → Res Env
  | .ok o h => gSubK2 d ρ o (mi ρ h)
  | .exc x h => .exc x h
  | .bad => .bad
@[simp] theorem gSubK3_some (h : Hd) : gSubK3 ρ (some h) = .ok ρ h := rfl
@[simp] theorem gSubK2_ok (d o i : D) (h : Hd) : gSubK2 d ρ o (.ok i h) = gSubK3 ρ (setF o i d h) := rfl
@[simp] theorem gSubK_ok (mi : ME) (d o : D) (h : Hd) : gSubK mi d ρ (.ok o h) = gSubK2 d ρ o (mi ρ h) := rfl
@[simp] theorem gSub_k (mo mi : ME) (d : D) (ρ : Env) (h : Hd) : DD.gSub mo mi d ρ h = gSubK mi d ρ (mo ρ h) := by
  unfold DD.gSub gSubK
  cases mo ρ h with
  | ok o h =>
    simp only [Res.bind_ok]; unfold gSubK2
    cases mi ρ h with
    | ok i h => simp only [Res.bind_ok]; unfold gSubK3; cases setF o i d h <;> rfl
    | _ => rfl
  | _ => rfl
def setFK2 (h : Hd) (r : Nat) (xs : List D) (v : D) : Option Nat → Option Hd
  | some j => some (h.set r (.lst (xs.set j v)))
  | none => none
def setFK (h : Hd) (r : Nat) (k : Int) (v : D) : Option Cell → Option Hd
  | some (.lst xs) => setFK2 h r xs v (ixN xs.length k)
  | _ => none
@[simp] theorem setFK2_some (r j : Nat) (xs : List D) (v : D) : setFK2 h r xs v (some j) = some (h.set r (.lst (xs.set j v))) := rfl
@[simp] theorem setFK_lst (r : Nat) (k : Int) (v : D) (xs : List D) : setFK h r k v (some (.lst xs)) = setFK2 h r xs v (ixN xs.length k) := rfl
@[simp] theorem setF_ref (r : Nat) (k : Int) (v : D) : setF (.ref r) (.int k) v h = setFK h r k v h[r]? := by
  rcases e : h[r]? with _ | c
  · simp only [setF, e, setFK]
  · cases c with
    | lst xs =>
      simp only [setF, e, setFK_lst]
      unfold setFK2; cases ixN xs.length k <;> rfl
    | _ => simp only [setF, e, setFK]
/-! a def's body -/
def runK : Fl → Res D
  | .nx _ h => .ok .non h
  | .rt d h => .ok d h
  | .exc x _ h => .exc x h
  | _ => .bad
@[simp] theorem runK_nx (ρ : Env) (h : Hd) : runK (.nx ρ h) = .ok .non h := rfl
@[simp] theorem runK_rt (d : D) (h : Hd) : runK (.rt d h) = .ok d h := rfl
@[simp] theorem runK_exc (x : Xc) (ρ : Env) (h : Hd) : runK (.exc x ρ h) = .exc x h := rfl
@[simp] theorem runB_k (n : Nat) (b : MS) (ds : List D) (h : Hd) : runB n b ds h = runK (b (startD n ds) h) := by unfold runB runK; cases b (startD n ds) h <;> rfl
@[simp] theorem startD_0 (n : Nat) : startD n [] = List.replicate n none := by simp [startD]
@[simp] theorem startD_1 (n : Nat) (a : D) : startD n [a] = some a :: List.replicate (n - 1) none := by simp [startD]
@[simp] theorem startD_2 (n : Nat) (a b : D) : startD n [a, b] = some a :: some b :: List.replicate (n - 2) none := by simp [startD]
@[simp] theorem startD_3 (n : Nat) (a b c : D) : startD n [a, b, c] = some a :: some b :: some c :: List.replicate (n - 3) none := by simp [startD]
/-! operators on data -/
@[simp] theorem addF_int (i j : Int) : addF (.int i) (.int j) h = .ok (.val (.int (i + j))) h := rfl
@[simp] theorem addF_str (a b : Str) : addF (.str a) (.str b) h = if a.length + b.length ≤ sizeLine then .ok (.val (.str (a ++ b))) h else .bad := rfl
@[simp] theorem addF_tup (a b : List D) : addF (.tup a) (.tup b) h = if a.length + b.length ≤ sizeLine then .ok (.val (.tup (a ++ b))) h else .bad := rfl
@[simp] theorem addF_lst (a b : List D) : addF (.lst a) (.lst b) h = if (a ++ b).length ≤ sizeLine then .ok (.new (.lst (a ++ b))) h else .bad := rfl
@[simp] theorem subF_int (i j : Int) : subF (.int i) (.int j) h = .ok (.val (.int (i - j))) h := rfl
@[simp] theorem mulF_int (i j : Int) : mulF (.int i) (.int j) h = if (-(2 ^ 64) < i ∧ i < 2 ^ 64) ∨ (-(2 ^ 64) < j ∧ j < 2 ^ 64) then .ok (.val (.int (i * j))) h else .bad := rfl
@[simp] theorem fdivF_int (i j : Int) : fdivF (.int i) (.int j) h = if 0 < j ∧ j < 1000000000000000000000000000000 then .ok (.val (.int (i / j))) h else .bad := rfl
@[simp] theorem modF_int (i j : Int) : modF (.int i) (.int j) h = if 0 < j then .ok (.val (.int (i % j))) h else .bad := rfl
@[simp] theorem powF_int (i j : Int) : powF (.int i) (.int j) h = if 0 ≤ j ∧ j ≤ 1000000 ∧ i.natAbs < 2 ^ 64 then .ok (.val (.int (i ^ j.toNat))) h else .bad := rfl
@[simp] theorem cLt_int (i j : Int) : cLt (.int i) (.int j) h = .ok (decide (i < j)) h := rfl
@[simp] theorem cLt_str (a b : Str) : cLt (.str a) (.str b) h = .ok (ltS a b) h := rfl
@[simp] theorem cLe_int (i j : Int) : cLe (.int i) (.int j) h = .ok (decide (i ≤ j)) h := rfl
@[simp] theorem cGt_int (i j : Int) : cGt (.int i) (.int j) h = .ok (decide (j < i)) h := rfl
@[simp] theorem cGe_int (i j : Int) : cGe (.int i) (.int j) h = .ok (decide (j ≤ i)) h := rfl
@[simp] theorem cIs_non (d : D) : cIs d .non h = .ok (isNon d) h := rfl
@[simp] theorem cIsNot_non (d : D) : cIsNot d .non h = .ok (!isNon d) h := rfl
end
end DD
set_option Elab.async false
set_option linter.all false
set_option maxRecDepth 100000
set_option maxHeartbeats 4000000
namespace DD
open PySem PySem.Spec L2 RZ
/-! ## loops -/
section
variable {α : Type} {h : Hd} {ρ : Env}
theorem atI_at {xs : List α} {i : Int} {j : Nat} {a : α} (e : i = (j : Int)) (h : xs[j]? = some a) : atI xs i = some a := e ▸ atI_nat h
/-- an index in range gives a member -/
theorem atI_in {xs : List α} {i : Int} (h : 0 ≤ i ∧ i < (xs.length : Int)) : ∃ a, a ∈ xs ∧ atI xs i = some a := by
  have hl : i.toNat < xs.length := by omega
  exact ⟨xs[i.toNat], List.getElem_mem hl, atI_at (j := i.toNat) (by omega) (by simp [hl])⟩
def itK : Res D → Res Src
  | .ok d h => optR (srcOf h d) h
  | .exc x h => .exc x h
  | .bad => .bad
@[simp] theorem itK_ok (d : D) (h : Hd) : itK (.ok d h) = optR (srcOf h d) h := rfl
@[simp] theorem mIter_k (m : ME) (ρ : Env) (h : Hd) : mIter m ρ h = itK (m ρ h) := by unfold mIter itK; cases m ρ h <;> rfl
def srcK (f : Hd → List D → Option Src) : Res (List D) → Res Src
  | .ok ds h => optR (f h ds) h
  | .exc x h => .exc x h
  | .bad => .bad
@[simp] theorem srcK_ok (f : Hd → List D → Option Src) (ds : List D) (h : Hd) : srcK f (.ok ds h) = optR (f h ds) h := rfl
@[simp] theorem mSrc_k (f : Hd → List D → Option Src) (m : MA) (ρ : Env) (h : Hd) : mSrc f m ρ h = srcK f (m ρ h) := by unfold mSrc srcK; cases m ρ h <;> rfl
@[simp] theorem srcOf_tup (xs : List D) : srcOf h (.tup xs) = some ⟨xs, fun _ => True⟩ := rfl
@[simp] theorem srcOf_lst (xs : List D) : srcOf h (.lst xs) = some ⟨xs, fun _ => True⟩ := rfl
@[simp] theorem srcOf_rol (xs : List D) : srcOf h (.rol xs) = some ⟨xs, fun _ => True⟩ := rfl
@[simp] theorem srcOf_str (s : Str) : srcOf h (.str s) = some ⟨signs s, fun _ => True⟩ := rfl
theorem srcOf_ref {r : Nat} {xs : List D} (e : h[r]? = some (.lst xs)) : srcOf h (.ref r) = some ⟨xs, fun h => h[r]? = some (.lst xs)⟩ := by
  simp only [srcOf, e]
theorem range1_of {j : Int} (hj : 0 ≤ j ∧ j < 2 ^ 62) : range1F [.int j] = some ⟨rangeD 0 j.toNat, fun _ => True⟩ := by
  unfold range1F
  simp only []
  rw [if_pos (by omega)]
@[simp] theorem rangeD_len (lo : Int) (n : Nat) : (rangeD lo n).length = n := by simp [rangeD]
def lcK2 : Res (List D) → Res O
  | .ok ds h => .ok (.new (.lst ds)) h
  | .exc x h => .exc x h
  | .bad => .bad
@[simp] theorem lcK2_ok (ds : List D) (h : Hd) : lcK2 (.ok ds h) = .ok (.new (.lst ds)) h := rfl
noncomputable def lcK (vs : List Nat) (g : MG) (t : MT) (e : ME) (ρ : Env) : Res Src → Res O
  | .ok s h => lcK2 (lcGo s.chk g t e (wipeD ρ vs) s.items [] h)
  | .exc x h => .exc x h
  | .bad => .bad
@[simp] theorem lcK_ok (vs : List Nat) (g : MG) (t : MT) (e : ME) (ρ : Env) (s : Src) (h : Hd) : lcK vs g t e ρ (.ok s h) = lcK2 (lcGo s.chk g t e (wipeD ρ vs) s.items [] h) := rfl
@[simp] theorem mLc_k (vs : List Nat) (mi : MI) (g : MG) (t : MT) (e : ME) (ρ : Env) (h : Hd) : mLc vs mi g t e ρ h = lcK vs g t e ρ (mi ρ h) := by
  unfold mLc lcK
  cases mi ρ h with
  | ok s h => simp only [Res.bind_ok]; unfold lcK2; cases lcGo s.chk g t e (wipeD ρ vs) s.items [] h <;> rfl
  | _ => rfl
@[simp] theorem tYes_k (ρ : Env) (h : Hd) : tYesM ρ h = .ok true h := rfl
@[simp] theorem wipeD_nil (ρ : Env) : wipeD ρ [] = ρ := rfl
@[simp] theorem wipeD_cons (ρ : Env) (v : Nat) (vs : List Nat) : wipeD ρ (v :: vs) = (wipeD ρ vs).set v none := rfl
theorem noX_ok {α : Type} {m : Env → Hd → Res α} {ρ : Env} {h h' : Hd} {a : α} (e : m ρ h = .ok a h') : noX m ρ h = .ok a h' := by unfold noX; rw [e]
/-- a comprehension under an invariant of the store -/
theorem lcGo_inv {chk : Hd → Prop} {g : MG} {t : MT} {e : ME} {ρ : Env} (I : Hd → Prop) (Pr : D → Prop) (hc : ∀ h, I h → chk h) : ∀ (ds acc : List D) (h : Hd),
    (∀ d ∈ ds, ∀ h, I h → ∃ ρ1 y h', g d ρ h = .ok ρ1 h ∧ t ρ1 h = .ok true h ∧ e ρ1 h = .ok y h' ∧ I h' ∧ Pr y) → I h → acc.length + ds.length ≤ sizeLine →
    ∃ ys h', lcGo chk g t e ρ ds acc h = .ok (acc ++ ys) h' ∧ ys.length = ds.length ∧ (∀ y ∈ ys, Pr y) ∧ I h'
  | [], acc, h, _, i, _ => ⟨[], h, by unfold lcGo; rw [if_pos (hc h i), List.append_nil], rfl, by simp, i⟩
  | d :: ds, acc, h, he, i, hz => by
    obtain ⟨ρ1, y, h1, a1, a2, a3, i1, py⟩ := he d (by simp) h i
    have hz' : acc.length + ds.length + 1 ≤ sizeLine := by simpa [Nat.add_assoc] using hz
    obtain ⟨ys, h2, b1, b2, b3, b4⟩ := lcGo_inv I Pr hc ds (acc ++ [y]) h1 (fun d m => he d (List.mem_cons_of_mem _ m)) i1 (by simp; omega)
    refine ⟨y :: ys, h2, ?_, by simp [b2], ?_, b4⟩
    · unfold lcGo
      rw [if_pos (hc h i), noX_ok a1]
      simp only [Res.bind_ok]
      rw [noX_ok a2]
      simp only [Res.bind_ok, if_true]
      rw [noX_ok a3]
      simp only [Res.bind_ok]
      rw [if_pos (by omega), b1]
      simp
    · intro z m
      rcases List.mem_cons.mp m with rfl | m
      · exact py
      · exact b3 z m
/-- a comprehension that changes nothing -/
theorem lcGo_pure {chk : Hd → Prop} {g : MG} {t : MT} {e : ME} {ρ : Env} {h : Hd} (f : D → D) (hc : chk h) : ∀ (ds acc : List D),
    (∀ d ∈ ds, ∃ ρ1, g d ρ h = .ok ρ1 h ∧ t ρ1 h = .ok true h ∧ e ρ1 h = .ok (f d) h) → acc.length + ds.length ≤ sizeLine →
    lcGo chk g t e ρ ds acc h = .ok (acc ++ ds.map f) h
  | [], acc, _, _ => by unfold lcGo; rw [if_pos hc]; simp
  | d :: ds, acc, he, hz => by
    obtain ⟨ρ1, a1, a2, a3⟩ := he d (by simp)
    have hz' : acc.length + ds.length + 1 ≤ sizeLine := by simpa [Nat.add_assoc] using hz
    unfold lcGo
    rw [if_pos hc, noX_ok a1]
    simp only [Res.bind_ok]
    rw [noX_ok a2]
    simp only [Res.bind_ok, if_true]
    rw [noX_ok a3]
    simp only [Res.bind_ok]
    rw [if_pos (by omega), lcGo_pure f hc ds (acc ++ [f d]) (fun d m => he d (List.mem_cons_of_mem _ m)) (by simp; omega)]
    simp
/-- a for statement under an invariant -/
theorem forGo_inv {chk : Hd → Prop} {g : MG} {b : MS} (I : Env → Hd → Prop) (hc : ∀ ρ h, I ρ h → chk h) : ∀ (ds : List D) (ρ : Env) (h : Hd),
    (∀ d ∈ ds, ∀ ρ h, I ρ h → ∃ ρ1 ρ2 h', g d ρ h = .ok ρ1 h ∧ b ρ1 h = .nx ρ2 h' ∧ I ρ2 h') → I ρ h → ∃ ρ' h', forGo chk g b ds ρ h = .nx ρ' h' ∧ I ρ' h'
  | [], ρ, h, _, i => ⟨ρ, h, by unfold forGo; rw [if_pos (hc ρ h i)], i⟩
  | d :: ds, ρ, h, hb, i => by
    obtain ⟨ρ1, ρ2, h1, a1, a2, i1⟩ := hb d (by simp) ρ h i
    obtain ⟨ρ3, h3, b1, b2⟩ := forGo_inv I hc ds ρ2 h1 (fun d m => hb d (List.mem_cons_of_mem _ m)) i1
    refine ⟨ρ3, h3, ?_, b2⟩
    unfold forGo
    rw [if_pos (hc ρ h i)]
    simp only [a1, a2, afterB]
    exact b1
noncomputable def forK (g : MG) (b : MS) (ρ : Env) : Res Src → Fl
  | .ok s h => forGo s.chk g b s.items ρ h
  | .exc x h => .exc x ρ h
  | .bad => .bad
@[simp] theorem forK_ok (g : MG) (b : MS) (s : Src) (h : Hd) : forK g b ρ (.ok s h) = forGo s.chk g b s.items ρ h := rfl
@[simp] theorem mFor_k (mi : MI) (g : MG) (b : MS) (ρ : Env) (h : Hd) : mFor mi g b ρ h = forK g b ρ (mi ρ h) := by unfold mFor liftR forK; cases mi ρ h <;> rfl
end
/-! ## built-ins -/
section
variable {h : Hd}
@[simp] theorem valR_some (d : D) (h : Hd) : valR (some d) h = .ok (.val d) h := rfl
@[simp] theorem lenF_lst (xs : List D) : lenF [.lst xs] h = .ok (.val (.int xs.length)) h := rfl
@[simp] theorem lenF_tup (xs : List D) : lenF [.tup xs] h = .ok (.val (.int xs.length)) h := rfl
@[simp] theorem lenF_rol (xs : List D) : lenF [.rol xs] h = .ok (.val (.int xs.length)) h := rfl
theorem lenF_ref {r : Nat} {xs : List D} (e : h[r]? = some (.lst xs)) : lenF [.ref r] h = .ok (.val (.int xs.length)) h := by
  simp [lenF, e]
@[simp] theorem lenF_str (s : Str) : lenF [.str s] h = if s.length ≤ sizeLine then .ok (.val (.int s.length)) h else .bad := rfl
theorem toBs_map {α : Type} (f : α → Bool) : ∀ xs : List α, toBs (xs.map fun x => D.bl (f x)) = some (xs.map f)
  | [] => rfl
  | x :: xs => by simp [toBs, toBs_map f xs]
theorem allF_map {α : Type} (f : α → Bool) (xs : List α) : allF [.lst (xs.map fun x => D.bl (f x))] h = .ok (.val (.bl (xs.all f))) h := by
  simp [allF, lstOf, toBs_map, valR, List.all_map, Function.comp_def]
theorem keysS_map : ∀ xs : List Str, keysS (xs.map .str) = some xs
  | [] => rfl
  | x :: xs => by simp [keysS, keysS_map xs]
theorem keysI_strs : ∀ xs : List Str, xs ≠ [] → keysI (xs.map .str) = none
  | [], e => absurd rfl e
  | x :: xs, _ => rfl
@[simp] theorem cEq_int (i j : Int) : cEq (.int i) (.int j) h = .ok (decide (i = j)) h := by
  show optR (some (decide (V.int i = V.int j))) h = _
  simp
@[simp] theorem cEq_bl (i j : Bool) : cEq (.bl i) (.bl j) h = .ok (i == j) h := by
  show optR (some (decide (V.bl i = V.bl j))) h = _
  cases i <;> cases j <;> rfl
@[simp] theorem cNe_bl (i j : Bool) : cNe (.bl i) (.bl j) h = .ok (i != j) h := by
  show optR (some (!decide (V.bl i = V.bl j))) h = _
  cases i <;> cases j <;> rfl
@[simp] theorem cIn_str (a b : Str) : cIn (.str a) (.str b) h = .ok (inT a b) h := rfl
@[simp] theorem joinK (a : Str) (ss : List Str) : joinF a (.lst (ss.map .str)) h = if (ss.map (·.length)).sum + ss.length * a.length ≤ 16777216 then .ok (.val (.str (Txt.join a ss))) h else .bad := by
  simp [joinF, lstOf, keysS_map]
def joinK2 (a : Str) : Res D → Res O
  | .ok y h => joinF a y h
  | .exc x h => .exc x h
  | .bad => .bad
@[simp] theorem joinK2_ok (a : Str) (y : D) (h : Hd) : joinK2 a (.ok y h) = joinF a y h := rfl
def joinK1 (mb : ME) (ρ : Env) : Res D → Res O
  | .ok (.str a) h => joinK2 a (mb ρ h)
  | .exc x h => .exc x h
  | _ => .bad
@[simp] theorem joinK1_ok (mb : ME) (ρ : Env) (a : Str) (h : Hd) : joinK1 mb ρ (.ok (.str a) h) = joinK2 a (mb ρ h) := rfl
@[simp] theorem mJoin_k (ma mb : ME) (ρ : Env) (h : Hd) : mJoin ma mb ρ h = joinK1 mb ρ (ma ρ h) := by
  unfold mJoin joinK1
  cases ma ρ h with
  | ok d h =>
    cases d with
    | str a => show (mb ρ h).bind (fun y h => joinF a y h) = joinK2 a (mb ρ h); unfold joinK2; cases mb ρ h <;> rfl
    | _ => rfl
  | _ => rfl
def ssK : Res D → Res O
  | .ok d h => ssF d h
  | .exc x h => .exc x h
  | .bad => .bad
@[simp] theorem ssK_ok (d : D) (h : Hd) : ssK (.ok d h) = ssF d h := rfl
@[simp] theorem mSS_k (m : ME) (ρ : Env) (h : Hd) : mSS m ρ h = ssK (m ρ h) := by unfold mSS ssK; cases m ρ h <;> rfl
theorem ssF_strs {d : D} {xs : List Str} (e : seqOf h d = some (xs.map .str)) (hz : xs.length ≤ 1000) : ssF d h = .ok (.new (.lst ((sd ltS xs).map .str))) h := by
  unfold ssF
  rw [e]
  simp only []
  rw [if_pos (by rw [List.length_map]; have : 1001 < scanBound := by decide +kernel
                 omega)]
  rcases xs with _ | ⟨x, xs⟩
  · rfl
  · rw [keysI_strs _ (by simp), keysS_map]
def negK : Res D → Res D
  | .ok (.int i) h => .ok (.int (-i)) h
  | .exc x h => .exc x h
  | _ => .bad
@[simp] theorem negK_ok (i : Int) (h : Hd) : negK (.ok (.int i) h) = .ok (.int (-i)) h := rfl
@[simp] theorem mNeg_k (m : ME) (ρ : Env) (h : Hd) : mNeg m ρ h = negK (m ρ h) := by
  unfold mNeg negK
  cases m ρ h with
  | ok d h => cases d <;> rfl
  | _ => rfl
@[simp] theorem mDict0_k (ρ : Env) (h : Hd) : mDict0 ρ h = .ok (.new (.dct [] [])) h := rfl
/-! texts that == takes -/
def sOk (s : Str) : Prop := PyData.strOk s = true
theorem isPys_strs : ∀ xs : List Str, isPys (xs.map .str) = true
  | [] => rfl
  | x :: xs => by simp [isPys, isPy, isPys_strs xs]
theorem pyDs_strs : ∀ xs : List Str, pyDs (xs.map .str) = xs.map .str
  | [] => rfl
  | x :: xs => by simp [pyDs, pyD, pyDs_strs xs]
theorem lay_strs : ∀ xs : List Str, (∀ s ∈ xs, sOk s) → PyData.canLayAll0 (xs.map .str) = true
  | [], _ => rfl
  | x :: xs, p => by
    have hx : PyData.strOk x = true := p x (by simp)
    simp [PyData.canLayAll0, PyData.canLay0, hx, lay_strs xs fun s m => p s (by simp [m])]
theorem depth_strs : ∀ xs : List Str, PyData.depthAll (xs.map .str) = 0
  | [] => rfl
  | x :: xs => by simp [PyData.depthAll, PyData.depth, depth_strs xs]
theorem eqv_strs : ∀ xs ys : List Str, PyData.eqvAll (xs.map .str) (ys.map .str) = decide (xs = ys)
  | [], [] => rfl
  | [], _ :: _ => rfl
  | _ :: _, [] => rfl
  | x :: xs, y :: ys => by
    simp only [List.map_cons, PyData.eqvAll, PyData.eqv, eqv_strs xs ys]
    by_cases a : x = y <;> by_cases b : xs = ys <;> simp [a, b]
theorem cEq_lists {d e : D} {xs ys : List Str} (hd : pyO h d = some (.list (xs.map .str))) (he : pyO h e = some (.list (ys.map .str))) (nd : scalV d = none) (ox : ∀ s ∈ xs, sOk s) (oy : ∀ s ∈ ys, sOk s) : eqF h d e = some (decide (xs = ys)) := by
  unfold eqF
  rw [nd]
  simp only [eqF.deepE, hd, he, Option.bind_some, PyData.canLay0, lay_strs xs ox, lay_strs ys oy, PyData.depth, depth_strs, PyData.eqv, eqv_strs]
  rfl
theorem pyO_lst (xs : List Str) : pyO h (.lst (xs.map .str)) = some (.list (xs.map .str)) := by
  simp [pyO, isPy, isPys_strs, pyD, pyDs_strs]
theorem pyO_ref {r : Nat} {xs : List Str} (e : h[r]? = some (.lst (xs.map .str))) : pyO h (.ref r) = some (.list (xs.map .str)) := by
  simp [pyO, e, isPys_strs, pyDs_strs]
end
end DD
set_option Elab.async false
set_option linter.all false
set_option maxRecDepth 100000
set_option maxHeartbeats 4000000
namespace DD
open PySem PySem.Spec L2 RZ
/-! ## texts -/
theorem sz_str {s : Str} {n : Nat} (h : s.length ≤ n) (hn : n ≤ 1000) : s.length ≤ sizeLine := sz_small (Nat.le_trans h hn)
theorem strs_of {p : Str → Prop} : ∀ ys : List D, (∀ y ∈ ys, ∃ s, y = .str s ∧ p s) → ∃ ss : List Str, ys = ss.map .str ∧ ∀ s ∈ ss, p s
  | [], _ => ⟨[], rfl, by simp⟩
  | y :: ys, h => by
    obtain ⟨s, rfl, ps⟩ := h y (by simp)
    obtain ⟨ss, rfl, pss⟩ := strs_of ys fun y m => h y (List.mem_cons_of_mem _ m)
    exact ⟨s :: ss, rfl, fun u m => by
      rcases List.mem_cons.mp m with rfl | m
      · exact ps
      · exact pss u m⟩
theorem sOk_iff {s : Str} : sOk s ↔ ∀ c ∈ s.cps.toList, c < 0x110000 := by
  unfold sOk PyData.strOk
  rw [← Array.all_toList, List.all_eq_true]
  simp
theorem sOk_app {a b : Str} (ha : sOk a) (hb : sOk b) : sOk (a ++ b) := by
  rw [sOk_iff] at *
  intro c m
  have e : (a ++ b).cps.toList = a.cps.toList ++ b.cps.toList := by show (a.cps ++ b.cps).toList = _; simp
  rw [e] at m
  rcases List.mem_append.mp m with m | m
  · exact ha c m
  · exact hb c m
@[simp] theorem app_len (a b : Str) : (a ++ b).length = a.length + b.length := by show (a.cps ++ b.cps).size = _; simp [Str.length]
theorem sOk_one {c : Nat} (h : c < 0x110000) : sOk ⟨#[c]⟩ := sOk_iff.mpr (by simpa using h)
theorem sOk_empty : sOk "" := by unfold sOk; decide +kernel
theorem sOk_join : ∀ ss : List Str, (∀ s ∈ ss, sOk s) → sOk (Str.join "" ss)
  | [], _ => by unfold Str.join; exact (by unfold sOk; decide +kernel)
  | [x], h => by unfold Str.join; exact h x (by simp)
  | x :: y :: r, h => by
    unfold Str.join
    exact sOk_app (sOk_app (h x (by simp)) sOk_empty) (sOk_join (y :: r) fun s m => h s (List.mem_cons_of_mem _ m))
theorem join_len (ss : List Str) : (Txt.join "" ss).length = (ss.map (·.length)).sum := by
  unfold Txt.join
  rw [size_glued, show ("" : Str).length = 0 by decide +kernel]
  simp
theorem sum_ones : ∀ ss : List Str, (∀ s ∈ ss, s.length = 1) → (ss.map (·.length)).sum = ss.length
  | [], _ => rfl
  | s :: ss, h => by
    simp only [List.map_cons, List.sum_cons, List.length_cons, h s (by simp), sum_ones ss fun s m => h s (List.mem_cons_of_mem _ m)]
    omega
/-- join of single signs -/
theorem join_signs {ss : List Str} (h : ∀ s ∈ ss, s.length = 1 ∧ sOk s) : (Txt.join "" ss).length = ss.length ∧ sOk (Txt.join "" ss) := by
  refine ⟨by rw [join_len, sum_ones ss fun s m => (h s m).1], ?_⟩
  rw [show Txt.join "" ss = Str.join "" ss from PySem.StrLaws.glued_eq_join _ _]
  exact sOk_join ss fun s m => (h s m).2
theorem joinF_signs {h : Hd} {ss : List Str} (p : ∀ s ∈ ss, s.length = 1 ∧ sOk s) (hz : ss.length ≤ 1000) : joinF "" (.lst (ss.map .str)) h = .ok (.val (.str (Txt.join "" ss))) h := by
  rw [joinK, if_pos]
  rw [sum_ones ss fun s m => (p s m).1, show ("" : Str).length = 0 by decide +kernel]
  omega
theorem mem_signs {d : D} {s : Str} (m : d ∈ signs s) (hs : sOk s) : ∃ u : Str, d = .str u ∧ u.length = 1 ∧ sOk u := by
  unfold signs at m
  obtain ⟨c, hc, rfl⟩ := List.mem_map.mp m
  exact ⟨_, rfl, rfl, sOk_one (sOk_iff.mp hs c hc)⟩
theorem cutS_len (s : Str) (lo hi : Option Int) : (cutS s lo hi).length ≤ s.length := by
  unfold cutS Str.length
  simp
  omega
theorem cutS_ok {s : Str} (lo hi : Option Int) (h : sOk s) : sOk (cutS s lo hi) := by
  rw [sOk_iff] at *
  intro c m
  unfold cutS at m
  exact h c (List.mem_of_mem_drop (List.mem_of_mem_take m))
/-- the sign at an index -/
theorem ixF_sign {h : Hd} {s : Str} {i : Int} (hi : 0 ≤ i ∧ i < (s.length : Int)) (hz : s.length ≤ 1000) (ho : sOk s) : ∃ u : Str, ixF h (.str s) (.int i) = some (.str u) ∧ u.length = 1 ∧ sOk u := by
  obtain ⟨c, hc, e⟩ := atI_in (xs := s.cps.toList) (i := i) (by rw [Array.length_toList]; exact hi)
  exact ⟨⟨#[c]⟩, by rw [ixF_str s i (sz_small hz), e]; rfl, rfl, sOk_one (sOk_iff.mp ho c hc)⟩
@[simp] theorem listF_str {h : Hd} (s : Str) : listF [.str s] h = if s.length ≤ sizeLine then .ok (.new (.lst (signs s))) h else .bad := rfl
@[simp] theorem listF_lst {h : Hd} (xs : List D) : listF [.lst xs] h = .ok (.new (.lst xs)) h := rfl
@[simp] theorem listF_tup {h : Hd} (xs : List D) : listF [.tup xs] h = .ok (.new (.lst xs)) h := rfl
@[simp] theorem listF_rol {h : Hd} (xs : List D) : listF [.rol xs] h = .ok (.new (.lst xs)) h := rfl
theorem listF_ref {h : Hd} {r : Nat} {xs : List D} (e : h[r]? = some (.lst xs)) : listF [.ref r] h = .ok (.new (.lst xs)) h := by simp [listF, e]
@[simp] theorem tupleF_tup {h : Hd} (xs : List D) : tupleF [.tup xs] h = .ok (.val (.tup xs)) h := rfl
@[simp] theorem tupleF_lst {h : Hd} (xs : List D) : tupleF [.lst xs] h = .ok (.val (.tup xs)) h := rfl
theorem tupleF_ref {h : Hd} {r : Nat} {xs : List D} (e : h[r]? = some (.lst xs)) : tupleF [.ref r] h = .ok (.val (.tup xs)) h := by simp [tupleF, e]
theorem cutL_1 {α : Type} (xs : List α) : cutL xs (some 1) none = xs.drop 1 := by
  cases xs with
  | nil => rfl
  | cons x xs => simp [cutL, HT.sIx]
theorem zipD_strs (ss us : List Str) : zipD (ss.map .str) (us.map .str) = (ss.zip us).map fun p => .tup [.str p.1, .str p.2] := by
  unfold zipD
  rw [List.zip_map, List.map_map]
  rfl
theorem zipF_tup {h : Hd} (xs ys : List D) : zipF h [.tup xs, .tup ys] = some ⟨zipD xs ys, fun _ => True⟩ := rfl
@[simp] theorem zipF_lst {h : Hd} (xs ys : List D) : zipF h [.lst xs, .lst ys] = some ⟨zipD xs ys, fun h => lstOf h (.lst xs) = some xs ∧ lstOf h (.lst ys) = some ys⟩ := rfl
theorem rise_adj : ∀ ss : List Str, (ss.zip (ss.drop 1)).all (fun p => ltS p.1 p.2) = true ↔ Rise ltS ss
  | [] => by simp
  | [x] => by simp
  | x :: y :: r => by
    have ih := rise_adj (y :: r)
    simp only [List.drop_succ_cons, List.drop_zero] at ih ⊢
    rw [List.zip_cons_cons, List.all_cons, Bool.and_eq_true, ih]
    show _ ↔ List.Pairwise _ (x :: y :: r)
    rw [List.pairwise_cons (a := x)]
    constructor
    · rintro ⟨a, b⟩
      refine ⟨fun z m => ?_, b⟩
      rcases List.mem_cons.mp m with rfl | m
      · exact a
      · exact ordS.tr _ _ _ a ((List.pairwise_cons.mp b).1 z m)
    · rintro ⟨a, b⟩
      exact ⟨a y (by simp), b⟩
theorem adj_sd (ss : List Str) : (ss.zip (ss.drop 1)).all (fun p => ltS p.1 p.2) = decide (ss = sd ltS ss) := by
  rw [Bool.eq_iff_iff, rise_adj, decide_eq_true_iff]
  constructor
  · intro h
    exact rise_ext ordS h (sd_rise ordS ss) fun a => (sd_mem ordS).symm
  · intro h
    rw [h]
    exact sd_rise ordS ss
theorem sd_len {α : Type} (lt : α → α → Bool) : ∀ l : List α, (sd lt l).length ≤ l.length
  | [] => Nat.le_refl _
  | x :: l => by
    have ins : ∀ m : List α, (insK lt x m).length ≤ m.length + 1 := fun m => by
      induction m with
      | nil => simp [insK]
      | cons y r ih => unfold insK; split; · simp
                       split
                       · simpa using ih
                       · simp
    exact Nat.le_trans (ins _) (Nat.succ_le_succ (sd_len lt l))
end DD
set_option Elab.async false
set_option linter.all false
set_option maxRecDepth 100000
set_option maxHeartbeats 4000000
namespace DD
open PySem PySem.Spec L2 RZ
/-! ## dicts with flat keys -/
def dctOf (h : Hd) : D → Option (List D × List D)
  | .dct ks us => some (ks, us)
  | .ref r => match h[r]? with
    | some (.dct ks us) => some (ks, us)
    | _ => none
  | _ => none
theorem dctOf_ok {c : Ct} {w : Wd} {h : Hd} {H : Hp} {d : D} {v : V} {ks us : List D} (s : SR c w h H) (r : VR c w d v) (e : dctOf h d = some (ks, us)) :
    ∃ (a : Addr) (kvs : List (Key × V)), v = .ref a ∧ Rd H a (.dK kvs) ∧ ks.map keyD = kvs.map (fun p => some p.1) ∧ VRs c w us (kvs.map (·.2)) := by
  cases d with
  | dct ks' us' =>
    simp only [dctOf, Option.some.injEq, Prod.mk.injEq] at e
    obtain ⟨rfl, rfl⟩ := e
    simp only [VR] at r
    obtain ⟨a, od, kvs, rfl, q, k, z⟩ := r
    exact ⟨a, kvs, rfl, .inr ⟨od, s.F _ _ q⟩, k, z⟩
  | ref n =>
    simp only [dctOf] at e
    split at e
    · rename_i ks' us' ex
      simp only [Option.some.injEq, Prod.mk.injEq] at e
      obtain ⟨rfl, rfl⟩ := e
      simp only [VR] at r
      obtain ⟨a, rfl, f⟩ := r
      obtain ⟨b, q1, _, _, q4⟩ := s.cell n _ ex (by intro z; cases z)
      rw [f] at q1; cases q1
      obtain ⟨kvs, q, k, z⟩ := q4
      exact ⟨a, kvs, rfl, .inl q, k, z⟩
    · cases e
  | _ => simp [dctOf] at e
/-- dicts whose keys are tuples -/
def dttOf (h : Hd) : D → Option (List D × List D)
  | .dtt ks us => some (ks, us)
  | .ref r => match h[r]? with
    | some (.dtt ks us) => some (ks, us)
    | _ => none
  | _ => none
theorem dttOf_ok {c : Ct} {w : Wd} {h : Hd} {H : Hp} {d : D} {v : V} {ks us : List D} (s : SR c w h H) (r : VR c w d v) (e : dttOf h d = some (ks, us)) :
    ∃ (a : Addr) (kvs : List (List Key × V)), v = .ref a ∧ Rd H a (.dT kvs) ∧ ks.map tkeyD = kvs.map (fun p => some p.1) ∧ VRs c w us (kvs.map (·.2)) := by
  cases d with
  | dtt ks' us' =>
    simp only [dttOf, Option.some.injEq, Prod.mk.injEq] at e
    obtain ⟨rfl, rfl⟩ := e
    simp only [VR] at r
    obtain ⟨a, od, kvs, rfl, q, k, z⟩ := r
    exact ⟨a, kvs, rfl, .inr ⟨od, s.F _ _ q⟩, k, z⟩
  | ref n =>
    simp only [dttOf] at e
    split at e
    · rename_i ks' us' ex
      simp only [Option.some.injEq, Prod.mk.injEq] at e
      obtain ⟨rfl, rfl⟩ := e
      simp only [VR] at r
      obtain ⟨a, rfl, f⟩ := r
      obtain ⟨b, q1, _, _, q4⟩ := s.cell n _ ex (by intro z; cases z)
      rw [f] at q1; cases q1
      obtain ⟨kvs, q, k, z⟩ := q4
      exact ⟨a, kvs, rfl, .inl q, k, z⟩
    · cases e
  | _ => simp [dttOf] at e
theorem keysD_map : ∀ {ds : List D} {kk : List Key}, keysD ds = some kk → ds.map keyD = kk.map some
  | [], kk, e => by simp [keysD] at e; subst e; rfl
  | d :: ds, kk, e => by
    unfold keysD at e
    split at e
    · rename_i k l e1 e2
      cases e
      simp [e1, keysD_map e2]
    · cases e
/-- the value at a key, by a reading of keys -/
def valG {κ : Type} [DecidableEq κ] (f : D → Option κ) : List D → List D → κ → Option D
  | k' :: ks, u :: us, k => if f k' = some k then some u else valG f ks us k
  | _, _, _ => none
abbrev valD : List D → List D → Key → Option D := valG keyD
abbrev valT : List D → List D → List Key → Option D := valG tkeyD
theorem valG_ok {κ : Type} [DecidableEq κ] {f : D → Option κ} {c : Ct} {w : Wd} {k : κ} : ∀ {ks us : List D} {kvs : List (κ × V)}, ks.map f = kvs.map (fun p => some p.1) → VRs c w us (kvs.map (·.2)) →
    (∀ d, valG f ks us k = some d → ∃ v, valV kvs k = some v ∧ VR c w d v) ∧ (valG f ks us k = none → valV kvs k = none)
  | [], us, [], _, r => ⟨fun d e => by simp [valG] at e, fun _ => rfl⟩
  | [], _, _ :: _, e, _ => by simp at e
  | _ :: _, _, [], e, _ => by simp at e
  | k' :: ks, [], p :: kvs, e, r => by simp only [VRs] at r; simp at r
  | k' :: ks, u :: us, p :: kvs, e, r => by
    simp only [List.map_cons, List.cons.injEq] at e
    simp only [VRs, List.map_cons, List.cons.injEq] at r
    obtain ⟨v, r2, ⟨rfl, rfl⟩, rv, rr⟩ := r
    have ih := valG_ok (k := k) e.2 rr
    unfold valG
    by_cases h : p.1 = k
    · rw [if_pos (by rw [e.1, h])]
      exact ⟨fun d ed => by cases ed; exact ⟨p.2, valV_pos h, rv⟩, fun z => by cases z⟩
    · rw [if_neg (by rw [e.1]; intro z; exact h (Option.some.inj z)), valV_neg h]
      exact ih
theorem keysD_vals {c : Ct} {w : Wd} : ∀ {ds : List D} {vs : List V} {kk : List Key}, VRs c w ds vs → keysD ds = some kk → vs = kk.map kV
  | [], vs, kk, r, e => by simp only [VRs] at r; simp [keysD] at e; subst e; exact r
  | d :: ds, vs, kk, r, e => by
    unfold keysD at e
    split at e
    · rename_i k l e1 e2
      cases e
      simp only [VRs] at r
      obtain ⟨v, us, rfl, r1, r2⟩ := r
      have kv : v = kV k := by cases d <;> simp [keyD] at e1 <;> (subst e1; simp only [VR] at r1; exact r1)
      rw [kv, keysD_vals r2 e2]
      rfl
    · cases e
theorem tkey_val {c : Ct} {w : Wd} {d : D} {v : V} {k : List Key} (r : VR c w d v) (e : tkeyD d = some k) : ∃ b, v = .ref b ∧ w.F b = some (.tup (k.map kV)) := by
  cases d with
  | tup xs =>
    simp only [VR] at r
    obtain ⟨a, vs, rfl, q, z⟩ := r
    have e' : keysD xs = some k := e
    have := keysD_vals z e'
    subst this
    exact ⟨a, rfl, q⟩
  | _ => cases e
theorem key_val {c : Ct} {w : Wd} {d : D} {v : V} {k : Key} (r : VR c w d v) (e : keyD d = some k) : v = kV k := by
  cases d <;> simp [keyD] at e <;> (subst e; simp only [VR] at r; exact r)
def dgetF (h : Hd) (x y : D) : Option (Option D) := match dctOf h x, keyD y with
  | some (ks, us), some k => some (valD ks us k)
  | _, _ => match dttOf h x, tkeyD y with
    | some (ks, us), some k => some (valT ks us k)
    | _, _ => none
theorem dgetF_ok {c : Ct} {w : Wd} {h : Hd} {H : Hp} {x y : D} {v u : V} {o : Option D} (s : SR c w h H) (rx : VR c w x v) (ry : VR c w y u) (e : dgetF h x y = some o) :
    ∃ (a : Addr) (o' : Option V), v = .ref a ∧ DGet H a u o' ∧ (∀ d, o = some d → ∃ z, o' = some z ∧ VR c w d z) ∧ (o = none → o' = none) := by
  unfold dgetF at e
  split at e
  · rename_i ks us k e1 e2
    cases e
    obtain ⟨a, kvs, rfl, q, kk, z⟩ := dctOf_ok s rx e1
    have := valG_ok (k := k) kk z
    refine ⟨a, valV kvs k, rfl, ?_, this.1, this.2⟩
    rw [key_val ry e2]
    exact .inl ⟨kvs, k, q, rfl, rfl⟩
  · split at e
    · rename_i ks us k e1 e2
      cases e
      obtain ⟨a, kvs, rfl, q, kk, z⟩ := dttOf_ok s rx e1
      have := valG_ok (k := k) kk z
      obtain ⟨b, rfl, eb⟩ := tkey_val ry e2
      exact ⟨a, valV kvs k, rfl, .inr ⟨kvs, k, b, q, rfl, s.F _ _ eb, rfl⟩, this.1, this.2⟩
    · cases e
def isDct (h : Hd) (x : D) : Bool := (dctOf h x).isSome || (dttOf h x).isSome
theorem isDct_ok {c : Ct} {w : Wd} {h : Hd} {H : Hp} {x : D} {v : V} (s : SR c w h H) (rx : VR c w x v) (e : isDct h x = true) : ∃ a, v = .ref a ∧ IsD H a := by
  unfold isDct at e
  cases e1 : dctOf h x with
  | some p =>
    obtain ⟨a, kvs, rfl, q, _⟩ := dctOf_ok s rx e1
    exact ⟨a, rfl, .inl ⟨kvs, q⟩⟩
  | none =>
    cases e2 : dttOf h x with
    | some p =>
      obtain ⟨a, kvs, rfl, q, _⟩ := dttOf_ok s rx e2
      exact ⟨a, rfl, .inr ⟨kvs, q⟩⟩
    | none => rw [e1, e2] at e; cases e
def mGet1 (ma mk : ME) : ME := fun ρ h => (ma ρ h).bind fun x h => if isDct h x then (mk ρ h).bind fun y h => optR ((dgetF h x y).map (·.getD .non)) h else .bad
def mGet2 (ma mk mx : ME) : ME := fun ρ h => (ma ρ h).bind fun x h => if isDct h x then (mk ρ h).bind fun y h => (mx ρ h).bind fun z h => optR ((dgetF h x y).map (·.getD z)) h else .bad
def mDIx (ma mk : ME) : ME := fun ρ h => (ma ρ h).bind fun x h => (mk ρ h).bind fun y h => optR ((dgetF h x y).bind id) h
theorem hu1 {k : Nat} {A : Around} (hr : Room k A) : A.units + 1 < cLine := by have := hu64 hr; omega
section
variable {X : Cx} {W : WX} {o e f : Expr} {ma mk mx mv : ME} {pos apos cpos pos' : Pos} {k : Nat}
theorem e_get1 (hr : Room k X.A) (ha : SE X W o ma) (hk : SE X W e mk) (m : M1 X o "get" apos e cpos := by exact ⟨rfl, rfl, rfl, rfl⟩) : SE X W (.Call (.Attribute o "get" apos) [e] [] cpos) (mGet1 ma mk) := PE.imp (pe_dget1 (hu1 hr) ha hk m) fun σ H Q q => by
  refine (tP.bind (k := fun ρ x h => if isDct h x then (mk ρ h).bind fun y h => optR ((dgetF h x y).map (·.getD .non)) h else .bad) q).mono fun v H1 ⟨w1, ρ, h1, d, e1, s1, r1, p1⟩ => ?_
  split at p1
  · rename_i hd
    obtain ⟨a, rfl, hi⟩ := isDct_ok s1 r1 hd
    refine ⟨a, rfl, hi, w1, ρ, h1, e1, s1, (Post.bind p1).mono fun y H2 ⟨w2, h2, dy, l2, ry, s2, p2⟩ => ?_⟩
    obtain ⟨b, eb, p3⟩ := optR_post p2
    rw [Option.map_eq_some_iff] at eb
    obtain ⟨ov, eo, rfl⟩ := eb
    obtain ⟨a', o', ea, g, g1, g2⟩ := dgetF_ok s2 (r1.le l2) ry eo
    cases ea
    refine ⟨o', g, ?_⟩
    cases ov with
    | none => rw [g2 rfl]; exact p3.ret (by simp only [Option.getD_none, VR]) s2
    | some z => obtain ⟨z', ez, rz⟩ := g1 z rfl; rw [ez]; exact p3.ret rz s2
  · exact p1.elim
theorem e_get2 (hr : Room k X.A) (ha : SE X W o ma) (hk : SE X W e mk) (hx : SE X W f mx) (m : M2 X o "get" apos e f cpos := by exact ⟨rfl, rfl, rfl, rfl⟩) : SE X W (.Call (.Attribute o "get" apos) [e, f] [] cpos) (mGet2 ma mk mx) := PE.imp (pe_dget2 (hu1 hr) ha hk hx m) fun σ H Q q => by
  refine (tP.bind (k := fun ρ x h => if isDct h x then (mk ρ h).bind fun y h => (mx ρ h).bind fun z h => optR ((dgetF h x y).map (·.getD z)) h else .bad) q).mono fun v H1 ⟨w1, ρ, h1, d, e1, s1, r1, p1⟩ => ?_
  split at p1
  · rename_i hd
    obtain ⟨a, rfl, hi⟩ := isDct_ok s1 r1 hd
    refine ⟨a, rfl, hi, w1, ρ, h1, e1, s1, (Post.bind p1).mono fun y H2 ⟨w2, h2, dy, l2, ry, s2, p2⟩ => ?_⟩
    refine ⟨w2, ρ, h2, e1.le l2, s2, (Post.bind p2).mono fun z H3 ⟨w3, h3, dz, l3, rz, s3, p3⟩ => ?_⟩
    obtain ⟨b, eb, p4⟩ := optR_post p3
    rw [Option.map_eq_some_iff] at eb
    obtain ⟨ov, eo, rfl⟩ := eb
    obtain ⟨a', o', ea, g, g1, g2⟩ := dgetF_ok s3 (r1.le (l2.trans l3)) (ry.le l3) eo
    cases ea
    refine ⟨o', g, ?_⟩
    cases ov with
    | none => rw [g2 rfl]; exact p4.ret rz s3
    | some z => obtain ⟨z', ez, rz⟩ := g1 z rfl; rw [ez]; exact p4.ret rz s3
  · exact p1.elim
theorem e_dix (hr : Room k X.A) (ha : SE X W o ma) (hk : SE X W e mk) (hs : NoSl e := by intro _ _; rfl) : SE X W (.Subscript o e pos) (mDIx ma mk) := PE.imp (pe_dget (hu1 hr) ha hk hs) fun σ H Q q => by
  refine (tP.bind (k := fun ρ x h => (mk ρ h).bind fun y h => optR ((dgetF h x y).bind id) h) q).mono fun v H1 ⟨w1, ρ, h1, d, e1, s1, r1, p1⟩ => ?_
  refine ⟨w1, ρ, h1, e1, s1, (Post.bind p1).mono fun y H2 ⟨w2, h2, dy, l2, ry, s2, p2⟩ => ?_⟩
  obtain ⟨b, eb, p3⟩ := optR_post p2
  rw [Option.bind_eq_some_iff] at eb
  obtain ⟨ov, eo, ei⟩ := eb
  have ei' : ov = some b := ei
  subst ei'
  obtain ⟨a', o', ea, g, g1, g2⟩ := dgetF_ok s2 (r1.le l2) ry eo
  obtain ⟨z', ez, rz⟩ := g1 b rfl
  subst ez
  exact ⟨a', z', ea, g, p3.ret rz s2⟩
end
end DD
set_option Elab.async false
set_option linter.all false
set_option maxRecDepth 100000
set_option maxHeartbeats 4000000
namespace DD
open PySem PySem.Spec L2 RZ
/-! ## a pinned object while something runs -/
theorem Post.pinned {α β : Type} {R : Wd → Hp → α → β → Prop} {c : Ct} {w : Wd} {W : WX} {σ : L2.St} {r : Res α} {Q : β → Hp → Prop} {a : Addr} {o : HO} (hR : ∀ w w' H x y, Le0 w w' → R w H x y → R w' H x y) (n : w.P a = none)
    (p : Post R c w W σ r fun v H2 => Q v H2) : Post R c (w.pinAt a o) W σ r fun v H2 => H2 a = some o ∧ Q v H2 := by
  cases r with
  | ok x h =>
    intro v w2 H2 l rx s2
    have eP : w2.P = upd w.P a o := l.P
    obtain ⟨s3, f3, e3⟩ := s2.unpin eP n
    exact ⟨e3, p v { w2 with P := w.P } H2 ⟨⟨l.F, l.φ⟩, rfl⟩ (hR w2 _ _ _ _ ⟨fun _ _ e => e, fun _ _ e => e⟩ rx) s3⟩
  | exc x h =>
    intro cls dx w2 H2 l s2 rx
    have eP : w2.P = upd w.P a o := l.P
    obtain ⟨s3, f3, e3⟩ := s2.unpin eP n
    refine p cls dx { w2 with P := w.P } H2 ⟨⟨l.F, l.φ⟩, rfl⟩ s3 ?_
    obtain ⟨C, x1, x2, x3⟩ := rx
    exact ⟨C, x1, x2, x3.imp id fun ⟨n, d, fs, y1, y2, y3, y4⟩ => ⟨n, d, fs, y1, y2, y3, y4.le0 (Le0.P w2 _)⟩⟩
  | bad => exact p
/-! ## displays -/
abbrev MP := Env → Hd → Res (List (D × D))
def pNil : MP := fun _ h => .ok [] h
def pCons (mk mv : ME) (r : MP) : MP := fun ρ h => (mk ρ h).bind fun k h => (mv ρ h).bind fun v h => (r ρ h).bind fun ps h => .ok ((k, v) :: ps) h
def RP (c : Ct) : Wd → Hp → List (D × D) → List (V × V) → Prop := fun w _ ps vs => VRs c w (ps.map (·.1)) (vs.map (·.1)) ∧ VRs c w (ps.map (·.2)) (vs.map (·.2))
def SP (X : Cx) (W : WX) (pos : Pos) (keys : List (Option Expr)) (values : List Expr) (m : MP) : Prop := ∃ trs, PPs X pos keys values trs ∧ ∀ σ H Q, tP (RP (Cx.ct X)) (Cx.ct X) W m σ H Q → tPairs trs σ H Q
section
variable {X : Cx} {W : WX} {pos : Pos} {k v : Expr} {ks : List (Option Expr)} {vs : List Expr} {mk mv : ME} {mp : MP}
theorem sp_nil : SP X W pos [] [] pNil := ⟨[], pps_nil, fun σ H Q ⟨w, ρ, h, e, s, p⟩ => p.ret ⟨.nil, .nil⟩ s⟩
theorem sp_cons (hk : SE X W k mk) (hv : SE X W v mv) (hr : SP X W pos ks vs mp) : SP X W pos (some k :: ks) (v :: vs) (pCons mk mv mp) := by
  obtain ⟨trs, hp, ht⟩ := hr
  refine ⟨(tE (Cx.ct X) W mk, tE (Cx.ct X) W mv) :: trs, pps_cons hk hv hp, fun σ H Q q => ?_⟩
  refine (tP.bind (k := fun ρ k h => (mv ρ h).bind fun v h => (mp ρ h).bind fun ps h => .ok ((k, v) :: ps) h) q).mono fun x H1 ⟨w1, ρ, h1, d, e1, s1, r1, p1⟩ => ?_
  refine ⟨w1, ρ, h1, e1, s1, (Post.bind p1).mono fun y H2 ⟨w2, h2, dy, l2, ry, s2, p2⟩ => ?_⟩
  refine ht _ _ _ ⟨w2, ρ, h2, e1.le l2, s2, (Post.bind p2).mono fun ps H3 ⟨w3, h3, dp, l3, rp, s3, p3⟩ => ?_⟩
  exact p3.ret ⟨.cons (r1.le (l2.trans l3)) rp.1, .cons (ry.le l3) rp.2⟩ s3
def dispF (ps : List (D × D)) (h : Hd) : Res O := match keysD (ps.map (·.1)) with
  | some kk => if kk.Nodup ∧ kk.length ≤ 15 then .ok (.new (.dct (ps.map (·.1)) (ps.map (·.2)))) h else .bad
  | none => .bad
def mDisp (mp : MP) : Env → Hd → Res O := fun ρ h => (mp ρ h).bind dispF
theorem mergeK_new : ∀ (more acc : List (Key × V)), ((acc ++ more).map (·.1)).Nodup → mergeK acc more = acc ++ more
  | [], acc, _ => by simp [mergeK]
  | p :: r, acc, h => by
    have hp : (acc.any fun kv => decide (kv.1 = p.1)) = false := by
      rw [List.any_eq_false]
      intro q m
      simp only [decide_eq_true_eq]
      intro e
      rw [List.map_append, List.nodup_append] at h
      exact h.2.2 q.1 (List.mem_map.mpr ⟨q, m, rfl⟩) p.1 (by simp) e
    have e : putK acc p.1 p.2 = acc ++ [p] := by unfold putK; rw [hp]; rfl
    show mergeK (putK acc p.1 p.2) r = _
    rw [e, mergeK_new r (acc ++ [p]) (by simpa using h)]
    simp
theorem e_disp (hp : SP X W pos ks vs mp) (hall : ks.all (·.isSome) = true := by rfl) (hl : ks.length = vs.length := by rfl) (h0 : ks ≠ [] := by intro z; cases z) (h15 : ks.length ≤ 15 := by decide) : SO X W (.Dict ks vs pos) (mDisp mp) := by
  obtain ⟨trs, pp, ht⟩ := hp
  refine PE.imp (pe_disp pp hall hl h0 h15) fun σ H Q ⟨w, ρ, h, e, s, q⟩ p hn => ?_
  have f0 := FreshAt.of s hn
  have sD : SR (Cx.ct X) (w.pinAt p (.dK [])) h (upd H p (.dK [])) := (s.laid hn _).pinned f0 upd_same (pin_dK _)
  have lp : Le0 w (w.pinAt p (.dK [])) := Le0.P w _
  refine ht _ _ _ ⟨w.pinAt p (.dK []), ρ, h, e.le0 lp, sD, ?_⟩
  have q0 : Post (RO (Cx.ct X)) (Cx.ct X) w W σ ((mp ρ h).bind dispF) Q := q
  have q1 : Post (RP (Cx.ct X)) (Cx.ct X) w W σ (mp ρ h) _ := Post.bind q0
  cases r : mp ρ h with
  | ok ps h2 =>
    rw [r] at q0
    have q2 : Post (RO (Cx.ct X)) (Cx.ct X) w W σ (dispF ps h2) Q := q0
    intro ws w2 H2 l rx s2
    have eP : w2.P = upd w.P p (.dK []) := l.P
    obtain ⟨s3, f3, e3⟩ := s2.unpin eP f0.P
    have l3 : Le w { w2 with P := w.P } := ⟨⟨l.F, l.φ⟩, rfl⟩
    have q3 := Post.le l3 q2
    unfold dispF at q3
    split at q3
    · rename_i kk ek
      split at q3
      · rename_i hk
        have ew := keysD_vals rx.1 ek
        have hlen : kk.length = (ws.map (·.2)).length := by
          have := congrArg List.length ew
          simpa using this.symm
        have ews : ws = (kk.zip (ws.map (·.2))).map fun kv => (kV kv.1, kv.2) := by
          have h1 : ws = (ws.map (·.1)).zip (ws.map (·.2)) := by
            rw [List.zip_map']
            simp
          rw [h1, ew, List.map_snd_zip (by simp [hlen])]
          rw [show (fun kv : Key × V => (kV kv.1, kv.2)) = Prod.map kV id from rfl, ← List.zip_map, List.map_id]
        have hm1 : (kk.zip (ws.map (·.2))).map (·.1) = kk := List.map_fst_zip (by omega)
        have hm2 : (kk.zip (ws.map (·.2))).map (·.2) = ws.map (·.2) := List.map_snd_zip (by omega)
        refine ⟨e3, kk.zip (ws.map (·.2)), ews, by rw [List.length_zip]; omega, ?_⟩
        rw [mergeK_new _ [] (by rw [List.nil_append, hm1]; exact hk.1), List.nil_append]
        refine q3 _ _ _ (.refl _) ⟨(by intro z; cases z), p, rfl, f3, ⟨_, upd_same, ?_, ?_⟩⟩ (s3.over f3 (fun ps z => by rw [e3] at z; cases z) _)
        · rw [keysD_map ek]
          conv => lhs; rw [← hm1]
          rw [List.map_map]; rfl
        · rw [hm2]; exact rx.2.le0 (Le0.P w2 _)
      · exact q3.elim
    · exact q3.elim
  | exc x h2 =>
    have := Post.pinned (a := p) (o := .dK []) (R := RP (Cx.ct X)) (fun w w' H x y l r => ⟨r.1.le0 l, r.2.le0 l⟩) f0.P q1
    rw [r] at this
    exact this
  | bad => rw [r] at q1; exact q1
end
end DD
set_option Elab.async false
set_option linter.all false
set_option maxRecDepth 100000
set_option maxHeartbeats 4000000
namespace L2
open PySem PySem.Spec
/-- d.update(other), both with flat keys -/
def rUpd : V → List V → Hp → VK → Prop := fun x xs H Q => ∃ (a b : Addr) (kvs more : List (Key × V)), x = .ref a ∧ xs = [.ref b] ∧ a ≠ b ∧ H a = some (.dK kvs) ∧ Rd H b (.dK more) ∧ kvs.length + more.length ≤ sizeLine ∧ Q .non (upd H a (.dK (mergeK kvs more)))
theorem mtd_update {X : Cx} : MtR X "dict.update" rUpd := by
  intro pins s σ H x xs v us Q I rx rxs h
  obtain ⟨a, b, kvs, more, rfl, rfl, hab, ha, hb, hz, q⟩ := h
  obtain ⟨u, rfl, ru⟩ := rxs.one
  obtain rfl : v = Value.ref a := rx
  obtain rfl : u = Value.ref b := ru
  obtain ⟨z1, hd1, vs, r1, dd1⟩ := dk_of I.hok ha
  obtain ⟨z2, hd2, ws, r2, dd2⟩ := dk_rd I.hok hb
  have l1 : kvs.length = vs.length := r1.length
  have l2 : more.length = ws.length := r2.length
  refine call_meetsIn PySem.F.slot_dict_update dd1.typeIs PySem.F.entry_dict_update (PySem.F.args_dict_update_2 _ _) (meets_dict_update (mixKind X.prog X.w) a b hab hd2) ⟨vs, ws, dd1, dd2, by omega, fun h' d1 d2 hs => ?_⟩
  have he : ∃ q, h'.get? a = some q := let ⟨q, _, _, hq, _⟩ := d1; ⟨q, hq⟩
  have hzz : (mergeK kvs more).length ≤ sizeLine := Nat.le_trans (length_mergeK more kvs) hz
  exact ⟨.non, _, d_write I (by rw [ha]; exact True.intro) hs he (dk_new hzz hd1 (r2.merge r1) d1), rfl, q⟩
end L2
namespace DD
open PySem PySem.Spec L2 RZ
/-! ## methods of built-in classes -/
def mMeth (ty : Hd → D → Bool) (f : D → List D → Hd → Res O) (mo : ME) (mas : MA) : Env → Hd → Res O := fun ρ h => (mo ρ h).bind fun x h => if ty h x then (mas ρ h).bind fun ds h => f x ds h else .bad
def TyS (c : Ct) (T : String) (ty : Hd → D → Bool) : Prop := ∀ {w : Wd} {h : Hd} {H : Hp} {x : D} {v : V}, SR c w h H → VR c w x v → ty h x = true → tyV c.K T v H
def CallM (c : Ct) (r : V → List V → Hp → VK → Prop) (f : D → List D → Hd → Res O) : Prop :=
  ∀ {w : Wd} {W : WX} {σ : L2.St} {h : Hd} {H : Hp} {v : V} {vs : List V} {x : D} {ds : List D} {Q : VK}, SR c w h H → VR c w x v → VRs c w ds vs → Post (RO c) c w W σ (f x ds h) Q → r v vs H Q
section
variable {X : Cx} {W : WX} {o e : Expr} {es : List Expr} {mo : ME} {mas : MA} {apos cpos : Pos} {T id : String} {name : Str} {r : V → List V → Hp → VK → Prop} {f : D → List D → Hd → Res O} {ty : Hd → D → Bool}
theorem e_meth (pa : PlainAttrs T) (slot : Slot T name id) (hty : typeOf (.builtin id) = pure (.type "method_descriptor")) (hm : MtR X id r) (hT : TyS (Cx.ct X) T ty) (hf : CallM (Cx.ct X) r f) (ho : SE X W o mo) (ha : SA X W (e :: es) mas)
    (hbase : attributeBase o name X.env (eval o X.env) = eval o X.env := by rfl)
    (hfew : ((backTo cpos (starEach (e :: es) X.env)).all (fun x => !x.1) && (backToKw cpos (keywordEach [] X.env)).all (fun x => x.1.isSome)
      && decide ((e :: es).length + ([] : List Keyword).length + (if ([] : List Keyword).isEmpty then 0 else 1) < 30)) = true := by rfl)
    (hline : (apos.endLine == cpos.line) = true := by rfl) (hs : starEach (e :: es) X.env = (false, eval e X.env) :: starEach es X.env := by rfl) (hplain : (backTo cpos (starEach es X.env)).any (·.1) = false := by rfl) :
    SO X W (.Call (.Attribute o name apos) (e :: es) [] cpos) (mMeth ty f mo mas) := PE.imp (pe_bm pa slot hty hm ho ha hbase hfew hline hs hplain) fun σ H Q q => by
  refine (tP.bind (k := fun ρ x h => if ty h x then (mas ρ h).bind fun ds h => f x ds h else .bad) q).mono fun v H1 ⟨w1, ρ, h1, d, e1, s1, r1, p1⟩ => ?_
  split at p1
  · rename_i hd
    refine ⟨hT s1 r1 hd, w1, ρ, h1, e1, s1, (Post.bind p1).mono fun us H2 ⟨w2, h2, ds, l2, rs, s2, p2⟩ => ?_⟩
    exact hf s2 (r1.le l2) rs p2
  · exact p1.elim
end
theorem VRs.one_inv' {c : Ct} {w : Wd} {d : D} {vs : List V} (r : VRs c w [d] vs) : ∃ v, vs = [v] ∧ VR c w d v := by
  simp only [VRs] at r
  obtain ⟨v, us, rfl, r1, rfl⟩ := r
  exact ⟨v, rfl, r1⟩
/-! own dicts -/
def updF : D → List D → Hd → Res O
  | .ref r, [.dct ks2 us2], h => match h[r]? with
    | some (.dct ks us) => (match keysD (ks ++ ks2) with
      | some kk => if kk.Nodup ∧ kk.length ≤ 1000 then .ok (.val .non) (h.set r (.dct (ks ++ ks2) (us ++ us2))) else .bad
      | none => .bad)
    | _ => .bad
  | _, _, _ => .bad
theorem keysD_app : ∀ {a b : List D} {kk : List Key}, keysD (a ++ b) = some kk → ∃ k1 k2, keysD a = some k1 ∧ keysD b = some k2 ∧ kk = k1 ++ k2
  | [], b, kk, e => ⟨[], kk, rfl, e, rfl⟩
  | d :: a, b, kk, e => by
    rw [List.cons_append] at e
    unfold keysD at e
    split at e
    · rename_i k l e1 e2
      cases e
      obtain ⟨k1, k2, q1, q2, rfl⟩ := keysD_app e2
      exact ⟨k :: k1, k2, by unfold keysD; rw [e1, q1], q2, rfl⟩
    · cases e
theorem keysD_fst {ks : List D} {kvs : List (Key × V)} {kk : List Key} (e : ks.map keyD = kvs.map (fun p => some p.1)) (k : keysD ks = some kk) : kvs.map (·.1) = kk := by
  rw [keysD_map k] at e
  have e' : kk.map some = (kvs.map (·.1)).map some := by rw [List.map_map]; exact e
  exact ((List.map_inj_right (fun _ _ z => Option.some.inj z)).mp e').symm
/-- an own cell's place -/
theorem cell_at {c : Ct} {w : Wd} {h : Hd} {H : Hp} {r : Nat} {z : Cell} {v : V} (s : SR c w h H) (rx : VR c w (.ref r) v) (e : h[r]? = some z) (g : z ≠ .gone) : ∃ a, v = .ref a ∧ w.φ r = some a ∧ w.F a = none ∧ CellOk c w H a z := by
  simp only [VR] at rx
  obtain ⟨a, rfl, f⟩ := rx
  obtain ⟨b, q1, q2, _, q4⟩ := s.cell r z e g
  rw [f] at q1; cases q1
  exact ⟨a, rfl, f, q2, q4⟩
/-- an own dict -/
def isOwnD (h : Hd) : D → Bool
  | .ref r => match h[r]? with
    | some (.dct _ _) => true
    | some (.dtt _ _) => true
    | _ => false
  | _ => false
theorem isOwnD_ty {c : Ct} : TyS c "dict" isOwnD := fun {w h H x v} s rx e => by
  cases x with
  | ref r =>
    simp only [isOwnD] at e
    split at e
    · rename_i ks us ex
      obtain ⟨a, rfl, f, _, kvs, q, _⟩ := cell_at s rx ex (by intro z; cases z)
      exact .inr (.inr (.inl ⟨rfl, .inl ⟨kvs, q⟩⟩))
    · rename_i ks us ex
      obtain ⟨a, rfl, f, _, kvs, q, _⟩ := cell_at s rx ex (by intro z; cases z)
      exact .inr (.inr (.inl ⟨rfl, .inr ⟨kvs, q⟩⟩))
    · cases e
  | _ => simp [isOwnD] at e
theorem s_upd {c : Ct} : CallM c rUpd updF := fun {w W σ h H v vs x ds Q} s rx rs p => by
  unfold updF at p
  split at p
  · rename_i r ks2 us2 h'
    split at p
    · rename_i ks us ex
      split at p
      · rename_i kk ek
        split at p
        · rename_i hn
          obtain ⟨k1, k2, g1, g2, rfl⟩ := keysD_app ek
          obtain ⟨a, rfl, f, fF, kvs, q, kq, z⟩ := cell_at s rx ex (by intro z; cases z)
          obtain ⟨u, rfl, ru⟩ := rs.one_inv'
          simp only [VR] at ru
          obtain ⟨b, od, more, rfl, q2, kq2, z2⟩ := ru
          have hab : a ≠ b := by rintro rfl; rw [fF] at q2; cases q2
          have n1 := keysD_fst kq g1
          have n2 := keysD_fst kq2 g2
          have em : mergeK kvs more = kvs ++ more := mergeK_new _ _ (by rw [List.map_append, n1, n2]; exact hn.1)
          refine ⟨a, b, kvs, more, rfl, rfl, hab, q, .inr ⟨od, s.F _ _ q2⟩, ?_, ?_⟩
          · have h1 : kvs.length + more.length = (k1 ++ k2).length := by rw [List.length_append, ← n1, ← n2]; simp
            rw [h1]; exact sz_small hn.2
          · rw [em]
            refine p _ w _ (.refl _) (by simp only [RO, VR]) ?_
            exact s.write ex (by intro z; cases z) f ⟨_, upd_same, by rw [List.map_append, List.map_append, kq, kq2], by rw [List.map_append]; exact z.append z2⟩ (by intro z; cases z)
        · exact p.elim
      · exact p.elim
    · exact p.elim
  · exact p.elim
/-! own lists: append, pop(i) -/
def isOwnL (h : Hd) : D → Bool
  | .ref r => match h[r]? with
    | some (.lst _) => true
    | _ => false
  | _ => false
theorem isOwnL_ty {c : Ct} : TyS c "list" isOwnL := fun {w h H x v} s rx e => by
  cases x with
  | ref r =>
    simp only [isOwnL] at e
    split at e
    · rename_i xs ex
      obtain ⟨a, rfl, f, _, vs, q, z⟩ := cell_at s rx ex (by intro z; cases z)
      exact .inl ⟨rfl, vs, SqL.of q⟩
    · cases e
  | _ => simp [isOwnL] at e
def appF : D → List D → Hd → Res O
  | .ref r, [d], h => match h[r]? with
    | some (.lst xs) => if xs.length < sizeLine then .ok (.val .non) (h.set r (.lst (xs ++ [d]))) else .bad
    | _ => .bad
  | _, _, _ => .bad
theorem s_app {c : Ct} : CallM c rAppend appF := fun {w W σ h H v vs x ds Q} s rx rs p => by
  unfold appF at p
  split at p
  · rename_i r d h'
    split at p
    · rename_i xs ex
      split at p
      · rename_i hz
        obtain ⟨a, rfl, f, _, us, q, z⟩ := cell_at s rx ex (by intro z; cases z)
        obtain ⟨u, rfl, ru⟩ := rs.one_inv'
        refine ⟨a, us, u, rfl, rfl, q, by rw [← z.len]; exact hz, p _ w _ (.refl _) (by simp only [RO, VR]) ?_⟩
        exact s.write ex (by intro z; cases z) f ⟨_, upd_same, z.append (.one ru)⟩ (by intro z; cases z)
      · exact p.elim
    · exact p.elim
  · exact p.elim
def popF : D → List D → Hd → Res O
  | .ref r, [.int i], h => match h[r]? with
    | some (.lst xs) => if -(2 ^ 63) ≤ i ∧ i < 2 ^ 63 then (match ixN xs.length i with
      | some j => (match xs[j]? with
        | some d => .ok (.val d) (h.set r (.lst (xs.eraseIdx j)))
        | none => .bad)
      | none => .bad) else .bad
    | _ => .bad
  | _, _, _ => .bad
theorem VRs.erase {c : Ct} {w : Wd} : ∀ {ds : List D} {vs : List V} (n : Nat), VRs c w ds vs → VRs c w (ds.eraseIdx n) (vs.eraseIdx n)
  | [], vs, n, r => by simp only [VRs] at r; subst r; simpa using VRs.nil
  | d :: ds, vs, 0, r => by
    simp only [VRs] at r
    obtain ⟨v, us, rfl, _, r2⟩ := r
    simpa using r2
  | d :: ds, vs, n + 1, r => by
    simp only [VRs] at r
    obtain ⟨v, us, rfl, r1, r2⟩ := r
    simp only [List.eraseIdx_cons_succ]
    exact .cons r1 (VRs.erase n r2)
theorem s_pop {c : Ct} : CallM c rPopAt popF := fun {w W σ h H v vs x ds Q} s rx rs p => by
  unfold popF at p
  split at p
  · rename_i r i
    split at p
    · rename_i xs ex
      split at p
      · rename_i hz
        split at p
        · rename_i j ej
          split at p
          · rename_i d ed
            obtain ⟨a, rfl, f, _, us, q, z⟩ := cell_at s rx ex (by intro z; cases z)
            obtain ⟨u, rfl, ru⟩ := rs.one_inv'
            simp only [VR] at ru
            subst ru
            obtain ⟨y, ey, ry⟩ := z.get ed
            refine ⟨a, us, i, j, y, rfl, rfl, q, hz.1, hz.2, ?_, ey, p _ w _ (.refl _) ry ?_⟩
            · rw [← z.len]; exact (ixN_seq ej).1
            · exact s.write ex (by intro z; cases z) f ⟨_, upd_same, z.erase j⟩ (by intro z; cases z)
          · exact p.elim
        · exact p.elim
      · exact p.elim
    · exact p.elim
  · exact p.elim
end DD
set_option Elab.async false
set_option linter.all false
set_option maxRecDepth 100000
set_option maxHeartbeats 4000000
namespace L2
open PySem PySem.Spec PyProof.Rows
section
variable {prog : Program} {w : World} {A : Around} {E : Value → Shared → Prop} {s : Shared}
theorem star_items {l : Addr} {items : Array Value} {i : Nat} {Q : List Value → Shared → Prop} (hl : IsTup s.heap l items) (hh : A.handled = none) (hi : i ≤ items.size) (hz : items.size ≤ 16384)
    (h : ∀ h' tk, Heap.ExtBut s.heap.objs.size s.heap h' → Q (items.toList.take i ++ [.ref h'.objs.size]) { s with heap := h'.push { cls := .type "list", data := .seq (items.toList.drop i).toArray }, toks := tk }) : wpAny (model prog w) A (unpackItems (.ref l) (i + 1) (some i)) Q E s := by
  have hlt : l ≠ s.heap.objs.size := by obtain ⟨o, ho, _⟩ := hl; exact Nat.ne_of_lt (Heap.lt_size ho)
  unfold unpackItems
  refine wpAny_bind ?_
  unfold notIterableAtAll
  refine wpAny_bind (wpAny_specialOf hl.typeIs slot_tuple_iter.lookup ?_)
  refine wpAny_pure ?_
  simp only [Bool.false_eq_true, if_false]
  refine wpAny_bind (wpAny_holding (iter_tuple hl ?_))
  refine wpAny_bind (wpAny_holding (draw_tuple hlt i 0 _ _ ⟨_, Heap.get?_push_size _ rfl, rfl, rfl⟩ (hl.push _) (by omega) fun h₁ hit₁ hs₁ => ?_))
  have hl₁ : IsTup h₁ l items := (hl.push _).extBut hs₁.extBut hlt
  rw [Nat.zero_add] at hit₁
  have hit₁' := hit₁
  obtain ⟨oi, hoi, _⟩ := hit₁'
  have hl₁' := hl₁
  obtain ⟨ol, hol, _⟩ := hl₁'
  rw [List.drop_zero]
  have hfl : (items.toList.take i).length = i := by rw [List.length_take, Array.length_toList]; omega
  rw [if_neg (show ¬ ((items.toList.take i).length < i) by rw [hfl]; omega)]
  refine wpAny_bind (wpAny_holding (PySem.W.kun_collect (s := { s with heap := h₁ }) (T := "tuple_iterator") (.inr (.inr (.inr rfl))) (Walks.tuple (A := A.in1) hh s.heap.objs.size l hlt items) (fun j u st => st.1.typeIs) (k := i) (by omega) ⟨hit₁, hl₁⟩ (Heap.lt_size hoi) (Heap.lt_size hol) (fun h₂ tk hk => ?_) (by rw [sizeLine_eq]; omega)))
  have hrl : (items.toList.drop i).length = items.size - i := by rw [List.length_drop, Array.length_toList]
  show wpAny _ _ (if (items.toList.drop i).length < i + 1 - 1 - i then _ else _) _ _ _
  rw [if_neg (by omega)]
  show wpAny _ _ (newList ((items.toList.drop i).take ((items.toList.drop i).length - (i + 1 - 1 - i))) >>= fun d => pure (items.toList.take i ++ [d] ++ (items.toList.drop i).drop ((items.toList.drop i).length - (i + 1 - 1 - i)))) _ _ _
  rw [show i + 1 - 1 - i = 0 by omega, Nat.sub_zero, List.take_length, List.drop_length]
  have he : Heap.ExtBut s.heap.objs.size s.heap h₂ := fun b o hb e => hk b o hb (hs₁.extBut b o hb (Heap.get?_push_of_some _ e))
  refine wpAny_bind (wpAny_newList (wpAny_pure ?_) (by rw [hrl, sizeLine_eq]; omega))
  rw [List.append_nil]
  exact h h₂ tk he
theorem star_itemsL {l : Addr} {items : Array Value} {i : Nat} {Q : List Value → Shared → Prop} (hl : s.heap.IsList l items) (hh : A.handled = none) (hi : i ≤ items.size) (hz : items.size ≤ 16384)
    (h : ∀ h' tk, Heap.ExtBut s.heap.objs.size s.heap h' → Q (items.toList.take i ++ [.ref h'.objs.size]) { s with heap := h'.push { cls := .type "list", data := .seq (items.toList.drop i).toArray }, toks := tk }) : wpAny (model prog w) A (unpackItems (.ref l) (i + 1) (some i)) Q E s := by
  have hlt : l ≠ s.heap.objs.size := by obtain ⟨o, ho, _⟩ := hl; exact Nat.ne_of_lt (Heap.lt_size ho)
  unfold unpackItems
  refine wpAny_bind ?_
  unfold notIterableAtAll
  refine wpAny_bind (wpAny_specialOf hl.typeIs PySem.F.slot_list_iter.lookup ?_)
  refine wpAny_pure ?_
  simp only [Bool.false_eq_true, if_false]
  refine wpAny_bind (wpAny_holding (wpAny_pyIter_list hl ?_))
  refine wpAny_bind (wpAny_holding (PySem.W.kun_draw hlt i 0 _ _ ⟨_, Heap.get?_push_size _ rfl, rfl, rfl⟩ (hl.push _) (by omega) fun h₁ hit₁ hs₁ => ?_))
  have hl₁ : h₁.IsList l items := (hl.push _).extBut hs₁.extBut hlt
  rw [Nat.zero_add] at hit₁
  have hit₁' := hit₁
  obtain ⟨oi, hoi, _⟩ := hit₁'
  have hl₁' := hl₁
  obtain ⟨ol, hol, _⟩ := hl₁'
  rw [List.drop_zero]
  have hfl : (items.toList.take i).length = i := by rw [List.length_take, Array.length_toList]; omega
  rw [if_neg (show ¬ ((items.toList.take i).length < i) by rw [hfl]; omega)]
  refine wpAny_bind (wpAny_holding (PySem.W.kun_collect (s := { s with heap := h₁ }) (T := "list_iterator") (.inr (.inr (.inl rfl))) (Walks.list (A := A.in1) hh s.heap.objs.size l hlt items) (fun j u st => st.1.typeIs) (k := i) (by omega) ⟨hit₁, hl₁⟩ (Heap.lt_size hoi) (Heap.lt_size hol) (fun h₂ tk hk => ?_) (by rw [sizeLine_eq]; omega)))
  have hrl : (items.toList.drop i).length = items.size - i := by rw [List.length_drop, Array.length_toList]
  show wpAny _ _ (if (items.toList.drop i).length < i + 1 - 1 - i then _ else _) _ _ _
  rw [if_neg (by omega)]
  show wpAny _ _ (newList ((items.toList.drop i).take ((items.toList.drop i).length - (i + 1 - 1 - i))) >>= fun d => pure (items.toList.take i ++ [d] ++ (items.toList.drop i).drop ((items.toList.drop i).length - (i + 1 - 1 - i)))) _ _ _
  rw [show i + 1 - 1 - i = 0 by omega, Nat.sub_zero, List.take_length, List.drop_length]
  have he : Heap.ExtBut s.heap.objs.size s.heap h₂ := fun b o hb e => hk b o hb (hs₁.extBut b o hb (Heap.get?_push_of_some _ e))
  refine wpAny_bind (wpAny_newList (wpAny_pure ?_) (by rw [hrl, sizeLine_eq]; omega))
  rw [List.append_nil]
  exact h h₂ tk he
end
def gStar (K : PySem.W.Frag) (i : Nat) (t : TGs) : TG := fun v σ H Q => ∃ a xs, v = .ref a ∧ SqT K H a xs ∧ i ≤ xs.length ∧ xs.length ≤ 16384 ∧ ∀ p, H p = none → t (xs.take i ++ [.ref p]) σ (upd H p (.lst (xs.drop i))) Q
def gStarL (K : PySem.W.Frag) (i : Nat) (t : TGs) : TG := fun v σ H Q => ∃ a xs, v = .ref a ∧ SqL K H a xs ∧ i ≤ xs.length ∧ xs.length ≤ 16384 ∧ ∀ p, H p = none → t (xs.take i ++ [.ref p]) σ (upd H p (.lst (xs.drop i))) Q
section
variable {X : Cx} {es : List Expr} {e : Expr} {t : TG} {u : TGs} {pos p : Pos} {k i : Nat}
theorem pgs_star (h1 : PG X e t) (hs : (assignEach [.Starred e p] X.env).map (·.2) = [assign e X.env] := by rfl) : PGs X [.Starred e p] (gCons t gNil) := by
  refine ⟨fun pins s σ H vs us Q I r h => ?_⟩
  obtain ⟨v, vr, e1, h⟩ := h
  subst e1
  cases r with
  | cons r rr =>
    rw [hs]
    refine assignInOrder_cons (thn (h1.run pins s σ H _ _ _ I r h) fun _ s1 ⟨σ1, H1, I1, q1⟩ => ?_)
    obtain ⟨e2, q1⟩ := q1
    subst e2
    cases rr
    exact assignInOrder_nil ⟨σ1, H1, I1, q1⟩
theorem pg_star (hc : X.calm = true) (h : PGs X es u) (hn : (assignEach es X.env).length = i + 1 := by rfl) (hst : (assignEach es X.env).findIdx? (·.1) = some i := by rfl) : PG X (.Tuple es k pos) (gStar X.K i u) := by
  refine ⟨fun pins s σ H v w Q I r hw => ?_⟩
  obtain ⟨a, xs, e1, hq, hl, hz, hw⟩ := hw
  subst e1
  cases r
  obtain ⟨its, rv, ht, hz'⟩ := I.tuple hq
  rw [assign_Tuple]
  refine wpAny_bind (wpAny_standAt ?_)
  unfold unpack
  rw [hn, hst]
  have l1 := rv.length
  refine wpAny_bind (wpAny_holding (star_items (ht) (I.ok.hd hc) (by simp; omega) (by simp; omega) fun h' tk he => ?_))
  have I1 : Inv X pins σ H { s with heap := h', toks := tk } := I.kept (t' := tk) fun b o e => he b o (Nat.ne_of_lt (Heap.lt_size e)) e
  have hf : H h'.objs.size = none := I1.hok.fresh (Nat.le_refl _)
  have I2 := I1.laid (a := h'.objs.size) (o := .lst (xs.drop i)) (h' := h'.push { cls := .type "list", data := .seq ((its).drop i).toArray }) (t' := tk) (fun b u e => Heap.get?_push_of_some _ e) (Nat.le_refl _) ⟨by rw [List.length_drop]; rw [sizeLine_eq]; omega, (its).drop i, 0, rv.drop i, Heap.get?_push_size _ rfl⟩
  refine h.run pins _ σ _ (xs.take i ++ [.ref h'.objs.size]) _ Q (by simpa using I2) ?_ (hw _ hf)
  simp only []
  exact (rv.take i).append (.cons rfl .nil)
theorem pg_starL (hc : X.calm = true) (h : PGs X es u) (hn : (assignEach es X.env).length = i + 1 := by rfl) (hst : (assignEach es X.env).findIdx? (·.1) = some i := by rfl) : PG X (.Tuple es k pos) (gStarL X.K i u) := by
  refine ⟨fun pins s σ H v w Q I r hw => ?_⟩
  obtain ⟨a, xs, e1, hq, hl, hz, hw⟩ := hw
  subst e1
  cases r
  obtain ⟨its, rv, ht, hz'⟩ := I.list hq
  rw [assign_Tuple]
  refine wpAny_bind (wpAny_standAt ?_)
  unfold unpack
  rw [hn, hst]
  have l1 := rv.length
  refine wpAny_bind (wpAny_holding (star_itemsL (ht.isList) (I.ok.hd hc) (by simp; omega) (by simp; omega) fun h' tk he => ?_))
  have I1 : Inv X pins σ H { s with heap := h', toks := tk } := I.kept (t' := tk) fun b o e => he b o (Nat.ne_of_lt (Heap.lt_size e)) e
  have hf : H h'.objs.size = none := I1.hok.fresh (Nat.le_refl _)
  have I2 := I1.laid (a := h'.objs.size) (o := .lst (xs.drop i)) (h' := h'.push { cls := .type "list", data := .seq ((its).drop i).toArray }) (t' := tk) (fun b u e => Heap.get?_push_of_some _ e) (Nat.le_refl _) ⟨by rw [List.length_drop]; rw [sizeLine_eq]; omega, (its).drop i, 0, rv.drop i, Heap.get?_push_size _ rfl⟩
  refine h.run pins _ σ _ (xs.take i ++ [.ref h'.objs.size]) _ Q (by simpa using I2) ?_ (hw _ hf)
  simp only []
  exact (rv.take i).append (.cons rfl .nil)
theorem PG.or {e : Expr} {t u : TG} (a : PG X e t) (b : PG X e u) : PG X e (fun v σ H Q => t v σ H Q ∨ u v σ H Q) := ⟨fun pins s σ H v w Q I r h => h.elim (fun h => a.run pins s σ H v w Q I r h) (fun h => b.run pins s σ H v w Q I r h)⟩
end
end L2

namespace DD
open PySem PySem.Spec L2 RZ
/-! ## a, *rest = a tuple (the rest a frozen list) -/
def gStarM (i : Nat) (gs : MGs) : MG := fun d ρ h => match d with
  | .tup xs => if i ≤ xs.length ∧ xs.length ≤ 16384 then gs (xs.take i ++ [.lst (xs.drop i)]) ρ h else .bad
  | d => match lstOf h d with
    | some xs => if i ≤ xs.length ∧ xs.length ≤ 16384 then gs (xs.take i ++ [.lst (xs.drop i)]) ρ h else .bad
    | none => .bad
section
variable {X : Cx} {W : WX} {e : Expr} {es : List Expr} {ix : List Nat} {g : MG} {gs : MGs} {pos p : Pos} {k i : Nat}
theorem gs_star (h1 : SGn X W ix e g) (hs : (assignEach [.Starred e p] X.env).map (·.2) = [assign e X.env] := by rfl) : SGs X W ix [.Starred e p] (gsCons g gsNil) := by
  refine ⟨PGs.imp (pgs_star h1.g hs) fun vs σ H Q ⟨w, ρ, h, ds, e, s, r, p⟩ => ?_, fun ds ρ h x h' q => ?_⟩
  · cases ds with
    | nil => exact p.elim
    | cons d ds =>
      simp only [VRs] at r
      obtain ⟨v, us, rfl, r1, r2⟩ := r
      refine ⟨v, us, rfl, w, ρ, h, d, e, s, r1, ?_⟩
      have p' : PostG (Cx.ct X) w W ix σ ((g d ρ h).bind fun ρ h => gsNil ds ρ h) Q := p
      cases q : g d ρ h with
      | ok ρ1 h1 =>
        rw [q] at p'
        cases ds with
        | nil =>
          simp only [VRs] at r2
          subst r2
          exact fun σ' w' H' l e' s' x => ⟨rfl, p' σ' w' H' l e' s' x⟩
        | cons _ _ => exact p'.elim
      | exc x h1' => exact absurd q (h1.n _ _ _ _ _)
      | bad => rw [q] at p'; exact p'.elim
  · cases ds with
    | nil => cases q
    | cons d ds =>
      have q' : (g d ρ h).bind (fun ρ h => gsNil ds ρ h) = .exc x h' := q
      cases q2 : g d ρ h with
      | ok ρ1 h1' => rw [q2] at q'; cases ds <;> cases q'
      | exc x2 h2 => exact h1.n _ _ _ _ _ q2
      | bad => rw [q2] at q'; cases q'
theorem g_star (hc : X.calm = true) (h : SGs X W ix es gs) (hn : (assignEach es X.env).length = i + 1 := by rfl) (hst : (assignEach es X.env).findIdx? (·.1) = some i := by rfl) : SG X W ix (.Tuple es k pos) (gStarM i gs) :=
  PG.imp (PG.or (pg_star hc h.g hn hst) (pg_starL hc h.g hn hst)) fun v σ H Q ⟨w, ρ, h, d, e, s, r, p⟩ => by
  have lists : (match lstOf h d with
      | some xs => if i ≤ xs.length ∧ xs.length ≤ 16384 then gs (xs.take i ++ [.lst (xs.drop i)]) ρ h else Res.bad
      | none => Res.bad) = gStarM i gs d ρ h → gStar X.K i (tGs (Cx.ct X) W ix gs) v σ H Q ∨ gStarL X.K i (tGs (Cx.ct X) W ix gs) v σ H Q := fun q => by
    have p' : PostG (Cx.ct X) w W ix σ (gStarM i gs d ρ h) Q := p
    rw [← q] at p'
    split at p'
    · rename_i xs ex
      split at p'
      · rename_i hl
        obtain ⟨a, vs, rfl, q1, z⟩ := lstOf_ok s r ex
        refine .inr ⟨a, vs, rfl, SqL.of q1, by rw [← z.len]; exact hl.1, by rw [← z.len]; exact hl.2, fun b hb => ?_⟩
        obtain ⟨l, s'⟩ := (s.laid hb (.lst (vs.drop i))).fz (FreshAt.of s hb) upd_same (plain_lst _)
        have r2 : VR (Cx.ct X) (w.fzAt b (.lst (vs.drop i))) (.lst (xs.drop i)) (.ref b) := by
          simp only [VR]
          exact ⟨b, vs.drop i, rfl, by show upd w.F b _ b = _; exact upd_same, (z.drop i).le l⟩
        exact ⟨_, ρ, h, _, e.le l, s', ((z.take i).le l).append (.one r2), PostG.le l p'⟩
      · exact p'.elim
    · exact p'.elim
  cases d with
  | tup xs =>
    have p' : PostG (Cx.ct X) w W ix σ (if i ≤ xs.length ∧ xs.length ≤ 16384 then gs (xs.take i ++ [.lst (xs.drop i)]) ρ h else .bad) Q := p
    split at p'
    · rename_i hl
      simp only [VR] at r
      obtain ⟨a, vs, rfl, q, z⟩ := r
      refine .inl ⟨a, vs, rfl, SqT_le s.F q, by rw [← z.len]; exact hl.1, by rw [← z.len]; exact hl.2, fun b hb => ?_⟩
      obtain ⟨l, s'⟩ := (s.laid hb (.lst (vs.drop i))).fz (FreshAt.of s hb) upd_same (plain_lst _)
      have r2 : VR (Cx.ct X) (w.fzAt b (.lst (vs.drop i))) (.lst (xs.drop i)) (.ref b) := by
        simp only [VR]
        exact ⟨b, vs.drop i, rfl, by show upd w.F b _ b = _; exact upd_same, (z.drop i).le l⟩
      exact ⟨_, ρ, h, _, e.le l, s', ((z.take i).le l).append (.one r2), PostG.le l p'⟩
    · exact p'.elim
  | _ => exact lists rfl
end
end DD
set_option Elab.async false
set_option linter.all false
set_option maxRecDepth 100000
set_option maxHeartbeats 4000000
namespace DD
open PySem PySem.Spec L2 RZ
/-! ## d[k] = v, an own dict -/
def putG {κ : Type} [DecidableEq κ] (f : D → Option κ) (ks us : List D) (k : κ) (v : D) : List D := match ks, us with
  | k' :: ks, u :: us => if f k' = some k then v :: putG f ks us k v else u :: putG f ks us k v
  | _, us => us
abbrev putU : List D → List D → Key → D → List D := putG keyD
/-- the entries with one more, or one anew -/
def dctPut (ks us : List D) (y : D) (k : Key) (v : D) : Cell := match valD ks us k with
  | some _ => .dct ks (putU ks us k v)
  | none => .dct (ks ++ [y]) (us ++ [v])
def dttPut (ks us : List D) (y : D) (k : List Key) (v : D) : Cell := match valT ks us k with
  | some _ => .dtt ks (putG tkeyD ks us k v)
  | none => .dtt (ks ++ [y]) (us ++ [v])
def dputF (x y v : D) (h : Hd) : Option Hd := match x with
  | .ref r => match h[r]? with
    | some (.dct ks us) => match keyD y with
      | some k => if ks.length < 1000 then some (h.set r (dctPut ks us y k v)) else none
      | none => none
    | some (.dtt ks us) => match tkeyD y with
      | some k => if ks.length < 1000 then some (h.set r (dttPut ks us y k v)) else none
      | none => none
    | _ => none
  | _ => none
def mDPut (mo mk mv : ME) : MS := liftR (fun ρ h => (mv ρ h).bind fun v h => (mo ρ h).bind fun x h => (mk ρ h).bind fun y h => match dputF x y v h with
  | some h => .ok () h
  | none => .bad) fun _ ρ h => .nx ρ h
theorem putG_ok {κ : Type} [DecidableEq κ] {f : D → Option κ} {c : Ct} {w : Wd} {k : κ} {v : D} {z : V} (rz : VR c w v z) : ∀ {ks us : List D} {kvs : List (κ × V)}, ks.map f = kvs.map (fun p => some p.1) → VRs c w us (kvs.map (·.2)) →
    VRs c w (putG f ks us k v) ((kvs.map fun kv => if kv.1 = k then (kv.1, z) else kv).map (·.2))
  | [], us, [], _, r => by unfold putG; simpa using r
  | [], _, _ :: _, e, _ => by simp at e
  | _ :: _, _, [], e, _ => by simp at e
  | k' :: ks, [], p :: kvs, e, r => by simp only [VRs] at r; simp at r
  | k' :: ks, u :: us, p :: kvs, e, r => by
    simp only [List.map_cons, List.cons.injEq] at e
    simp only [VRs, List.map_cons, List.cons.injEq] at r
    obtain ⟨v', r2, ⟨rfl, rfl⟩, rv, rr⟩ := r
    have ih := putG_ok (k := k) rz e.2 rr
    unfold putG
    by_cases h : p.1 = k
    · rw [if_pos (by rw [e.1, h])]
      simp only [List.map_cons, if_pos h]
      exact .cons rz ih
    · rw [if_neg (by rw [e.1]; intro z; exact h (Option.some.inj z))]
      simp only [List.map_cons, if_neg h]
      exact .cons rv ih
/-- both ways of a store, once -/
theorem put_two {κ : Type} [DecidableEq κ] {f : D → Option κ} {c : Ct} {w : Wd} {k : κ} {v y : D} {vv : V} (rv : VR c w v vv) (ey : f y = some k) {ks us : List D} {kvs : List (κ × V)} (kq : ks.map f = kvs.map (fun p => some p.1)) (z : VRs c w us (kvs.map (·.2))) :
    (∀ d, valG f ks us k = some d → ks.map f = (putK kvs k vv).map (fun p => some p.1) ∧ VRs c w (putG f ks us k v) ((putK kvs k vv).map (·.2))) ∧
    (valG f ks us k = none → (ks ++ [y]).map f = (putK kvs k vv).map (fun p => some p.1) ∧ VRs c w (us ++ [v]) ((putK kvs k vv).map (·.2))) := by
  have vk := valG_ok (k := k) kq z
  constructor
  · intro d hv
    obtain ⟨z', ez, _⟩ := vk.1 d hv
    have ep : putK kvs k vv = kvs.map fun kv => if kv.1 = k then (kv.1, vv) else kv := by unfold putK; rw [if_pos (by rw [valV_any, ez]; rfl)]
    rw [ep]
    refine ⟨?_, putG_ok rv kq z⟩
    rw [kq, List.map_map]
    apply List.map_congr_left
    intro p _
    by_cases hp : p.1 = k <;> simp [hp]
  · intro hv
    have ep : putK kvs k vv = kvs ++ [(k, vv)] := by unfold putK; rw [if_neg (by rw [valV_any, vk.2 hv]; simp)]
    rw [ep]
    refine ⟨by simp [kq, ey], ?_⟩
    rw [List.map_append]
    exact z.append (.one rv)
theorem dputF_ok {c : Ct} {w : Wd} {h h' : Hd} {H : Hp} {x y v : D} {vx vy vv : V} (s : SR c w h H) (rx : VR c w x vx) (ry : VR c w y vy) (rv : VR c w v vv) (e : dputF x y v h = some h') : ∃ a H', vx = .ref a ∧ DPut H a vy vv H' ∧ SR c w h' H' := by
  unfold dputF at e
  split at e
  · rename_i r
    split at e
    · rename_i ks us ex
      split at e
      · rename_i k ek
        split at e
        · rename_i fk
          obtain ⟨a, rfl, f, fF, kvs, q, kq, z⟩ := cell_at s rx ex (by intro z; cases z)
          have hl : kvs.length < sizeLine := by
            have h1 : kvs.length = ks.length := by have := congrArg List.length kq; simpa using this.symm
            rw [h1, sizeLine_eq]; omega
          have ey := key_val ry ek
          subst ey
          cases e
          refine ⟨a, _, rfl, .k q hl, ?_⟩
          have pt := put_two rv ek kq z
          unfold dctPut
          cases hv : valD ks us k with
          | some d => exact s.write ex (by intro z; cases z) f ⟨_, upd_same, pt.1 d hv⟩ (by intro z; cases z)
          | none => exact s.write ex (by intro z; cases z) f ⟨_, upd_same, pt.2 hv⟩ (by intro z; cases z)
        · cases e
      · cases e
    · rename_i ks us ex
      split at e
      · rename_i k ek
        split at e
        · rename_i fk
          obtain ⟨a, rfl, f, fF, kvs, q, kq, z⟩ := cell_at s rx ex (by intro z; cases z)
          have hl : kvs.length < sizeLine := by
            have h1 : kvs.length = ks.length := by have := congrArg List.length kq; simpa using this.symm
            rw [h1, sizeLine_eq]; omega
          obtain ⟨b, rfl, eb⟩ := tkey_val ry ek
          cases e
          refine ⟨a, _, rfl, .t q (s.F _ _ eb) hl, ?_⟩
          have pt := put_two rv ek kq z
          unfold dttPut
          cases hv : valT ks us k with
          | some d => exact s.write ex (by intro z; cases z) f ⟨_, upd_same, pt.1 d hv⟩ (by intro z; cases z)
          | none => exact s.write ex (by intro z; cases z) f ⟨_, upd_same, pt.2 hv⟩ (by intro z; cases z)
        · cases e
      · cases e
    · cases e
  · cases e
section
variable {X : Cx} {W : WX} {o e f value : Expr} {mo mk mv : ME} {pos apos cpos pos' : Pos} {k : Nat}
theorem s_dput (hr : Room k X.A) (ho : SE X W o mo) (hk : SE X W e mk) (hv : SE X W value mv) (hs : swapsWith value (some (.Subscript o e pos')) pos.line X.env = pure false := by rfl) : SS X W (.Assign [.Subscript o e pos'] value pos) (mDPut mo mk mv) :=
  PS.imp (ps_dput (hu1 hr) ho hk hv hs) fun Dn σ H q => by
  have q' : tP (fun _ _ (_ : Unit) (_ : Unit) => True) (Cx.ct X) W (fun ρ h => (mv ρ h).bind fun v h => (mo ρ h).bind fun x h => (mk ρ h).bind fun y h => match dputF x y v h with
      | some h => .ok () h
      | none => .bad) σ H (fun _ H1 => Dn.nx σ H1) := (tS.lift q).mono fun v H1 ⟨w1, ρ, h1, d, e1, s1, r1, p1⟩ => p1.nx e1 s1
  refine (tP.bind q').mono fun v H1 ⟨w1, ρ, h1, d, e1, s1, r1, p1⟩ => ?_
  refine ⟨w1, ρ, h1, e1, s1, (Post.bind p1).mono fun x H2 ⟨w2, h2, dx, l2, rx, s2, p2⟩ => ?_⟩
  refine ⟨w2, ρ, h2, e1.le l2, s2, (Post.bind p2).mono fun y H3 ⟨w3, h3, dy, l3, ry, s3, p3⟩ => ?_⟩
  split at p3
  · rename_i h4 e4
    obtain ⟨a, H', ea, g, s'⟩ := dputF_ok s3 (rx.le l3) ry (r1.le (l2.trans l3)) e4
    exact ⟨a, H', ea, g, p3 () w3 H' (.refl _) trivial s'⟩
  · exact p3.elim
end
/-! ## the module's own dicts with text keys -/
structure KDat (K : PySem.W.Frag) (w : World) (mg : Str → Option Value) (x : Str) (kvs : List (Str × D)) : Prop where
  ex : ∃ (d : Addr) (es : Array DictEntry) (n : Nat), mg x = some (.ref d) ∧ KDict K w d es n ∧ ∀ z : Str, match kvs.lookup z with
    | some dv => ∃ u v, PySem.W.nsIn K d z = some (some u) ∧ RelV v u ∧ ∀ wd : Wd, VR ⟨K, mg⟩ wd dv v
    | none => PySem.W.nsIn K d z = some none
def kixF (x : Str) (kvs : List (Str × D)) : D → D → Option D
  | .glb y, .str z => if y = x then kvs.lookup z else none
  | _, _ => none
def mKIx (x : Str) (kvs : List (Str × D)) (mk : ME) : ME := fun ρ h => (mk ρ h).bind fun y h => optR (kixF x kvs (.glb x) y) h
def mKGet (x : Str) (kvs : List (Str × D)) (mk : ME) : ME := fun ρ h => (mk ρ h).bind fun y h => match y with
  | .str z => .ok ((kvs.lookup z).getD .non) h
  | _ => .bad
def kInF (kvs : List (Str × D)) (y : D) : D → Hd → Res Bool := fun _ h => match y with
  | .str z => .ok (kvs.lookup z).isSome h
  | _ => .bad
section
variable {X : Cx} {W : WX} {e : Expr} {mk : ME} {pos apos cpos p : Pos} {x : Str} {kvs : List (Str × D)} {k : Nat}
theorem e_kix (hd : KDat X.K X.w X.mg x kvs) (hk : SE X W e mk) (hs : PlainIx e := by intro _ _; rfl) (hg : Gl X x := by rfl) (hdb : (x == ("__debug__" : Str)) = false := by decide) : SE X W (.Subscript (.Name x p) e pos) (mKIx x kvs mk) := by
  obtain ⟨d, es, n, hm, D, hz⟩ := hd.ex
  have hn : SE X W (.Name x p) (mC (.glb x)) := e_glob (v := .ref d) hm rfl (fun w => by simp only [VR]; exact ⟨d, rfl, hm⟩) hg hdb
  refine PE.imp (pe_ix ix_kdict hn hk hs) fun σ H Q ⟨w, ρ, h, er, s, q⟩ => ?_
  refine ⟨w, ρ, h, er, s, fun v w1 H1 l1 r1 s1 => ?_⟩
  simp only [VR] at r1
  obtain ⟨a, rfl, ha⟩ := r1
  have ha' : X.mg x = some (.ref a) := ha
  rw [hm] at ha'
  cases ha'
  refine ⟨w1, ρ, h, er.le l1, s1, (Post.bind (Post.le l1 q)).mono fun u H2 ⟨w2, h2, dy, l2, ry, s2, p2⟩ => ?_⟩
  obtain ⟨dv, ed, p3⟩ := optR_post p2
  cases dy with
  | str z =>
    simp only [kixF, if_true] at ed
    have hz' := hz z
    rw [ed] at hz'
    obtain ⟨u0, v0, e0, r0, rv⟩ := hz'
    simp only [VR] at ry
    exact ⟨d, z, v0, rfl, ry, ⟨es, n, u0, D.at_, D.lit, e0, r0⟩, p3.ret (rv w2) s2⟩
  | _ => simp [kixF] at ed
end
end DD
namespace L2
open PySem PySem.Spec PyProof.Rows
theorem pe_kget {X : Cx} {d : Addr} {es : Array DictEntry} {n : Nat} {o e : Expr} {td ty : TE} {apos cpos : Pos} (D : KDict X.K X.w d es n) (ho : PE X o td) (he : PE X e ty) (m : M1 X o "get" apos e cpos) : PE X (.Call (.Attribute o "get" apos) [e] [] cpos)
    (fun σ H Q => td σ H fun x H1 => x = .ref d ∧ ty σ H1 fun y H2 => ∃ (z : Str) (r : Option Value), y = .str z ∧ PySem.W.nsIn X.K d z = some r ∧ (match r with
      | some u0 => ∃ v0, RelV v0 u0 ∧ Q v0 H2
      | none => Q .non H2)) := by
  refine ⟨fun pins s σ H Q I h => ?_⟩
  refine wpAny_Call_method m.base m.few m.line PySem.F.plainAttrs_dict PySem.F.slot_dict_get PySem.F.type_dict_get (thn (ho.run pins s σ H _ I h) fun u s1 ⟨x, H1, I1, rx, ex, q1⟩ => ?_)
  subst ex
  obtain rfl : u = Value.ref d := rx
  refine ⟨kd_type D I1, fun b q => ?_, ?_⟩
  · cases q
    exact ⟨_, I1.kIn _ _ D.at_, rfl⟩
  rw [m.trees]
  refine Calls.callWith_builtin rfl (Calls.evalArgs_plain (Calls.spliced_cons (thn (he.run pins s1 σ H1 _ I1 q1) fun iv s2 ⟨y, H2, I2, ry, z, r, ey, en, q2⟩ => Calls.spliced_nil ?_)))
  subst ey
  obtain ⟨t, rfl⟩ := (show ∃ t, iv = Value.str z t from ry)
  refine call_meetsIn PySem.F.slot_dict_get (kd_type D I2) PySem.F.entry_dict_get (PySem.F.args_dict_get_2 _ _) (meets_dict_get (strKind X.prog X.w) d (strKind_is X.prog X.w z t) D.low) ⟨_, PySem.W.mapOf_K (prog := X.prog) (w := X.w) I2.kIn D.at_ D.lit, ?_⟩
  rw [PySem.W.find_K D.at_ en]
  cases r with
  | some u0 =>
    obtain ⟨v0, r0, q3⟩ := q2
    exact ⟨v0, H2, I2.tok _, r0, q3⟩
  | none => exact ⟨.non, H2, I2.tok _, rfl, q2⟩
end L2
namespace DD
open PySem PySem.Spec L2 RZ
section
variable {X : Cx} {W : WX} {e : Expr} {mk : ME} {pos apos cpos p : Pos} {x : Str} {kvs : List (Str × D)} {k : Nat}
theorem e_kget (hd : KDat X.K X.w X.mg x kvs) (hk : SE X W e mk) (m : M1 X (.Name x p) "get" apos e cpos := by exact ⟨rfl, rfl, rfl, rfl⟩) (hg : Gl X x := by rfl) (hdb : (x == ("__debug__" : Str)) = false := by decide) : SE X W (.Call (.Attribute (.Name x p) "get" apos) [e] [] cpos) (mKGet x kvs mk) := by
  obtain ⟨d, es, n, hm, D, hz⟩ := hd.ex
  have hn : SE X W (.Name x p) (mC (.glb x)) := e_glob (v := .ref d) hm rfl (fun w => by simp only [VR]; exact ⟨d, rfl, hm⟩) hg hdb
  refine PE.imp (pe_kget D hn hk m) fun σ H Q ⟨w, ρ, h, er, s, q⟩ => ?_
  refine ⟨w, ρ, h, er, s, fun v w1 H1 l1 r1 s1 => ?_⟩
  simp only [VR] at r1
  obtain ⟨a, rfl, ha⟩ := r1
  have ha' : X.mg x = some (.ref a) := ha
  rw [hm] at ha'
  cases ha'
  refine ⟨rfl, w1, ρ, h, er.le l1, s1, (Post.bind (Post.le l1 q)).mono fun u H2 ⟨w2, h2, dy, l2, ry, s2, p2⟩ => ?_⟩
  cases dy with
  | str z =>
    simp only [VR] at ry
    have hz' := hz z
    have p3 : Post (RV (Cx.ct X)) (Cx.ct X) w2 W σ (.ok ((kvs.lookup z).getD .non) h2) Q := p2
    cases el : kvs.lookup z with
    | some dv =>
      rw [el] at hz' p3
      obtain ⟨u0, v0, e0, r0, rv⟩ := hz'
      exact ⟨z, some u0, ry, e0, v0, r0, p3.ret (rv w2) s2⟩
    | none =>
      rw [el] at hz' p3
      exact ⟨z, none, ry, hz', p3.ret (by simp only [Option.getD_none, VR]) s2⟩
  | _ => exact p2.elim
def mKIn (kvs : List (Str × D)) (mk : ME) : MT := fun ρ h => (mk ρ h).bind fun y h => match y with
  | .str z => .ok (kvs.lookup z).isSome h
  | _ => .bad
theorem t_kin (hd : KDat X.K X.w X.mg x kvs) (hk : SE X W e mk) (hg : Gl X x := by rfl) (hdb : (x == ("__debug__" : Str)) = false := by decide) (hm' : behindInMarks .In (.Name x p) = false := by rfl) : ST X W (.Compare e [.In] [.Name x p] pos) (mKIn kvs mk) := by
  obtain ⟨d, es, n, hm, D, hz⟩ := hd.ex
  have hn : SE X W (.Name x p) (mC (.glb x)) := e_glob (v := .ref d) hm rfl (fun w => by simp only [VR]; exact ⟨d, rfl, hm⟩) hg hdb
  refine PT.imp (pt_cmpR (op_in_kd D) hk hn hm') fun σ H Q q => ?_
  refine (tP.bind (k := fun ρ y h => match y with
    | .str z => .ok (kvs.lookup z).isSome h
    | _ => .bad) q).mono fun v H1 ⟨w1, ρ, h1, dy, e1, s1, ry, p1⟩ => ?_
  refine ⟨w1, ρ, h1, e1, s1, fun u w2 H2 l2 ru s2 => ?_⟩
  simp only [VR] at ru
  obtain ⟨a, rfl, ha⟩ := ru
  have ha' : X.mg x = some (.ref a) := ha
  rw [hm] at ha'
  cases ha'
  cases dy with
  | str z =>
    simp only [VR] at ry
    have hz' := hz z
    have p3 : Post RB (Cx.ct X) w1 W σ (.ok (kvs.lookup z).isSome h1) Q := p1
    cases el : kvs.lookup z with
    | some dv =>
      rw [el] at hz' p3
      obtain ⟨u0, v0, e0, r0, rv⟩ := hz'
      exact ⟨z, some u0, ry, rfl, e0, true, rfl, p3 true w2 H2 l2 rfl s2⟩
    | none =>
      rw [el] at hz' p3
      exact ⟨z, none, ry, rfl, hz', false, rfl, p3 false w2 H2 l2 rfl s2⟩
  | _ => exact p1.elim
theorem e_kin (hd : KDat X.K X.w X.mg x kvs) (hk : SE X W e mk) (hg : Gl X x := by rfl) (hdb : (x == ("__debug__" : Str)) = false := by decide) (hm' : behindInMarks .In (.Name x p) = false := by rfl) : SE X W (.Compare e [.In] [.Name x p] pos) (mB (mKIn kvs mk)) := by
  obtain ⟨d, es, n, hm, D, hz⟩ := hd.ex
  have hn : SE X W (.Name x p) (mC (.glb x)) := e_glob (v := .ref d) hm rfl (fun w => by simp only [VR]; exact ⟨d, rfl, hm⟩) hg hdb
  refine PE.imp (pe_cmpR (op_in_kd D) hk hn hm') fun σ H Q q => ?_
  have q' : tP (RV (Cx.ct X)) (Cx.ct X) W (fun ρ h => (mk ρ h).bind fun y h => match y with
    | .str z => .ok (.bl (kvs.lookup z).isSome) h
    | _ => .bad) σ H Q := by
    obtain ⟨w, ρ, h, e1, s1, p⟩ := q
    refine ⟨w, ρ, h, e1, s1, ?_⟩
    unfold mB mKIn at p
    show Post (RV (Cx.ct X)) (Cx.ct X) w W σ ((mk ρ h).bind fun y h => match y with
      | .str z => .ok (.bl (kvs.lookup z).isSome) h
      | _ => .bad) Q
    cases r : mk ρ h with
    | ok y h2 =>
      rw [r] at p
      cases y <;> exact p
    | exc x h2 => rw [r] at p; exact p
    | bad => rw [r] at p; exact p
  refine (tP.bind (R2 := RV (Cx.ct X)) (k := fun (ρ : DD.Env) (y : DD.D) (h : Hd) => match y with
    | .str z => Res.ok (DD.D.bl (kvs.lookup z).isSome) h
    | _ => .bad) q').mono fun v H1 ⟨w1, ρ, h1, dy, e1, s1, ry, p1⟩ => ?_
  refine ⟨w1, ρ, h1, e1, s1, fun u w2 H2 l2 ru s2 => ?_⟩
  simp only [VR] at ru
  obtain ⟨a, rfl, ha⟩ := ru
  have ha' : X.mg x = some (.ref a) := ha
  rw [hm] at ha'
  cases ha'
  cases dy with
  | str z =>
    simp only [VR] at ry
    have hz' := hz z
    have p3 : Post (RV (Cx.ct X)) (Cx.ct X) w1 W σ (.ok (.bl (kvs.lookup z).isSome) h1) Q := p1
    cases el : kvs.lookup z with
    | some dv =>
      rw [el] at hz' p3
      obtain ⟨u0, v0, e0, r0, rv⟩ := hz'
      exact ⟨z, some u0, ry, rfl, e0, p3 (.bl true) w2 H2 l2 (by simp only [VR]; rfl) s2⟩
    | none =>
      rw [el] at hz' p3
      exact ⟨z, none, ry, rfl, hz', p3 (.bl false) w2 H2 l2 (by simp only [VR]; rfl) s2⟩
  | _ => exact p1.elim
end
end DD
set_option Elab.async false
set_option linter.all false
set_option maxRecDepth 100000
set_option maxHeartbeats 4000000
namespace L2
open PySem PySem.Spec PyProof.Rows
/-- op in a tuple by data -/
def rInTD (K : PySem.W.Frag) (n : Bool) : R2 := fun x y H Q => ∃ d ds, Dp K H x d ∧ Dp K H y (.tuple ds) ∧ d.canLay0 = true ∧ PyData.canLayAll0 ds = true ∧ PyData.depthAll ds ≤ 64 ∧ Q (.bl (if n then !(ds.any fun z => PyData.eqv z d) else ds.any fun z => PyData.eqv z d)) H
theorem op_inTD {X : Cx} (hu : X.A.units + 66 < cLine) : OpR X (compareOp .In) (rInTD X.K false) := by
  intro pins s σ H x y v u Q I rx ry h
  obtain ⟨d, ds, hd, he, sd, se, dp, q⟩ := h
  obtain ⟨as, r1⟩ := Dp.reads I d x v hd rx
  obtain ⟨bs, r2⟩ := Dp.reads I (.tuple ds) y u he ry
  exact SeqAt.in_tuple_reads r2 r1 se sd (by omega) ⟨.bl _, H, I, rfl, q⟩
theorem op_notInTD {X : Cx} (hu : X.A.units + 66 < cLine) : OpR X (compareOp .NotIn) (rInTD X.K true) := by
  intro pins s σ H x y v u Q I rx ry h
  obtain ⟨d, ds, hd, he, sd, se, dp, q⟩ := h
  obtain ⟨as, r1⟩ := Dp.reads I d x v hd rx
  obtain ⟨bs, r2⟩ := Dp.reads I (.tuple ds) y u he ry
  exact SeqAt.notIn_tuple_reads r2 r1 se sd (by omega) ⟨.bl _, H, I, rfl, q⟩
section
variable {X : Cx} {CX : CXT} {k n : Nat} {f : Addr} {fd : FuncData} {ps ks : List Str} {sp : Sp} {E : St → XK} {x : Str} {p pos : Pos} {e : Expr} {es : List Expr} {kws : List Keyword} {t tk : TA} {g : List Value → List Value → List Value} {gV : List V → List V → List V}
def tCallNS (n m : Nat) (sp : Sp) (gV : List V → List V → List V) (E : St → XK) (t tk : TA) : TE := fun σ H Q => t σ H fun vs H1 => tk σ H1 fun zs H2 => vs.length = n ∧ zs.length = m ∧ sp (gV vs zs) H2 Q (E σ)
theorem pe_callNS (F : FnOk X.prog X.w X.K X.mg X.base CX k f fd ps sp) (hr : Room k X.A) (hg : Gl X x) (hm : X.mg x = some (.ref f)) (hk : PySem.W.keepIn X.K (.ref f) = true) (hb : KBn X.K fd ps n ks g gV) (hx : ∀ σ, PassesAt CX X σ (E σ))
    (ha : PA X (e :: es) t) (hkw : PK X kws tk) (hall : (backToKw pos (keywordEach kws X.env)).all (·.1.isSome) = true := by rfl) (hks : (backToKw pos (keywordEach kws X.env)).filterMap (·.1) = ks := by rfl)
    (hdb : (x == ("__debug__" : Str)) = false := by decide) (he : starEach (e :: es) X.env = (false, eval e X.env) :: starEach es X.env := by rfl)
    (hpl : ((backTo pos (starEach (e :: es) X.env)).any (·.1) || (backToKw pos (keywordEach kws X.env)).any (·.1.isNone)) = false := by rfl) :
    PE X (.Call (.Name x p) (e :: es) kws pos) (tCallNS n ks.length sp gV E t tk) := by
  refine ⟨fun pins s σ H Q I h => ?_⟩
  refine wpAny_Call_Name_kw (ld_glob I hg hm ?_ hdb)
  refine PySem.W.callWith_KW (h₀ := X.base) I.ok.mod.kin hk hall (thn (ha.run pos pins s σ H _ I h) fun us s1 ⟨vs, H1, I1, r, q⟩ => ?_) hpl he
  refine thn (hkw.run pos pins s1 σ H1 _ I1 q) fun ws s2 ⟨zs, H2, I2, rz, l1, l2, q2⟩ => ⟨I2.kIn, ?_⟩
  rw [hks]
  have r2 := hb.rel r rz
  refine wpAny_call (codeAny_mono (F.run X.A X.stack s2 H2 ⟨us, ks.zip ws⟩ (g us ws) (gV vs zs) Q (E σ) hr I2.env0 (hb.to s2 us ws I2.kIn (r.length.symm.trans l1) (rz.length.symm.trans l2)) r2 q2) fun r s' hq => ?_)
  cases r with
  | error e => exact hx σ pins H2 s2 e s' I2 hq
  | ok fl =>
    cases fl with
    | ret u => exact I2.after hq
    | next => exact False.elim hq
    | brk => exact False.elim hq
    | cont => exact False.elim hq
end
end L2
namespace DD
open PySem PySem.Spec L2 RZ
/-! ## in, not in: also a tuple of data -/
def inTupD (h : Hd) (x y : D) : Option Bool := match y, pyO h x with
  | .tup ys, some d => if isPys ys && d.canLay0 && PyData.canLayAll0 (pyDs ys) && decide (PyData.depthAll (pyDs ys) ≤ 64) then some ((pyDs ys).any fun z => PyData.eqv z d) else none
  | _, _ => none
def cInX (d e : D) (h : Hd) : Res Bool := match inF h d e with
  | some b => .ok b h
  | none => optR (inTupD h d e) h
def cNotInX (d e : D) (h : Hd) : Res Bool := match inF h d e with
  | some b => .ok (!b) h
  | none => optR ((inTupD h d e).map (!·)) h
theorem inTupD_ok {c : Ct} {w : Wd} {h : Hd} {H : Hp} {x y : V} {dx dy : D} {b : Bool} (s : SR c w h H) (rx : VR c w dx x) (ry : VR c w dy y) (e : inTupD h dx dy = some b) :
    ∃ d ds, Dp c.K H x d ∧ Dp c.K H y (.tuple ds) ∧ d.canLay0 = true ∧ PyData.canLayAll0 ds = true ∧ PyData.depthAll ds ≤ 64 ∧ (ds.any fun z => PyData.eqv z d) = b := by
  unfold inTupD at e
  split at e
  · rename_i ys d ed
    split at e
    · rename_i hc
      simp only [Bool.and_eq_true, decide_eq_true_eq] at hc
      cases e
      have r2 := dp_of s ry (show isPy (.tup ys) = true by simpa only [isPy] using hc.1.1.1)
      simp only [pyD] at r2
      exact ⟨d, pyDs ys, pyO_ok s rx ed, r2, hc.1.1.2, hc.1.2, hc.2, rfl⟩
    · cases e
  · cases e
theorem s_inX {c : Ct} : OpB c (fun x y H Q => rInA c.K x y H Q ∨ rInTD c.K false x y H Q) cInX := fun {w W σ h H x y dx dy Q} s rx ry p => by
  unfold cInX at p
  split at p
  · rename_i b eb
    exact .inl (s_in s rx ry (by unfold cIn; rw [eb]; exact p))
  · obtain ⟨b, eb, p⟩ := optR_post p
    obtain ⟨d, ds, a1, a2, a3, a4, a5, a6⟩ := inTupD_ok s rx ry eb
    exact .inr ⟨d, ds, a1, a2, a3, a4, a5, b, by simpa using a6, p.ret rfl s⟩
end DD
set_option Elab.async false
set_option linter.all false
set_option maxRecDepth 100000
set_option maxHeartbeats 4000000
namespace DD
open PySem PySem.Spec L2 RZ
theorem hu66 {k : Nat} {A : Around} (hr : Room k A) : A.units + 66 < cLine := by have := hr.un; omega
theorem s_notinX {c : Ct} : OpB c (fun x y H Q => rNotInA c.K x y H Q ∨ rInTD c.K true x y H Q) cNotInX := fun {w W σ h H x y dx dy Q} s rx ry p => by
  unfold cNotInX at p
  split at p
  · rename_i b eb
    exact .inl (s_notin s rx ry (by unfold cNotIn; rw [eb]; exact p))
  · obtain ⟨b, eb, p⟩ := optR_post p
    rw [Option.map_eq_some_iff] at eb
    obtain ⟨b', eb, rfl⟩ := eb
    obtain ⟨d, ds, a1, a2, a3, a4, a5, a6⟩ := inTupD_ok s rx ry eb
    exact .inr ⟨d, ds, a1, a2, a3, a4, a5, !b', by simp [a6], p.ret rfl s⟩
theorem mono_inTD {K : PySem.W.Frag} {n : Bool} (x y : V) (H : Hp) (Q Q' : VK) (i : ∀ v H, Q v H → Q' v H) : rInTD K n x y H Q → rInTD K n x y H Q' := fun ⟨d, ds, a1, a2, a3, a4, a5, q⟩ => ⟨d, ds, a1, a2, a3, a4, a5, i _ _ q⟩
section
variable {X : Cx} {W : WX} {a b e : Expr} {es : List Expr} {ma mb mo : ME} {mas mks : MA} {pos apos cpos p kpos : Pos} {k n : Nat} {x : Str}
theorem e_inX (hr : Room k X.A) (ha : SE X W a ma) (hb : SE X W b mb) (hm : behindInMarks .In b = false := by rfl) : SE X W (.Compare a [.In] [b] pos) (mB (mCmp cInX ma mb)) :=
  e_cmp (fun x y H Q Q' i => Or.imp (mono_inA x y H Q Q' i) (mono_inTD x y H Q Q' i)) ((op_inA (hu65 hr)).or (op_inTD (hu66 hr))) s_inX ha hb hm
theorem e_notinX (hr : Room k X.A) (ha : SE X W a ma) (hb : SE X W b mb) (hm : behindInMarks .NotIn b = false := by rfl) : SE X W (.Compare a [.NotIn] [b] pos) (mB (mCmp cNotInX ma mb)) :=
  e_cmp (fun x y H Q Q' i => Or.imp (mono_notInA x y H Q Q' i) (mono_inTD x y H Q Q' i)) ((op_notInA (hu65 hr)).or (op_notInTD (hu66 hr))) s_notinX ha hb hm
theorem t_inX (hr : Room k X.A) (ha : SE X W a ma) (hb : SE X W b mb) (hm : behindInMarks .In b = false := by rfl) : ST X W (.Compare a [.In] [b] pos) (mCmp cInX ma mb) := t_cmp ((op_inA (hu65 hr)).or (op_inTD (hu66 hr))) s_inX ha hb hm
theorem t_notinX (hr : Room k X.A) (ha : SE X W a ma) (hb : SE X W b mb) (hm : behindInMarks .NotIn b = false := by rfl) : ST X W (.Compare a [.NotIn] [b] pos) (mCmp cNotInX ma mb) := t_cmp ((op_notInA (hu65 hr)).or (op_notInTD (hu66 hr))) s_notinX ha hb hm
end
/-! ## int(a truth), int(an int) -/
def intF : List D → Hd → Res O
  | [.int i], h => .ok (.val (.int i)) h
  | [.bl b], h => .ok (.val (.int (if b then 1 else 0))) h
  | _, _ => .bad
theorem s_int {c : Ct} : CallS c (fun xs H Q => (∃ i, xs = [.int i] ∧ Q (.int i) H) ∨ ∃ k, xs = [.bl k] ∧ Q (.int (if k then 1 else 0)) H) intF := fun {w W σ h H vs ds Q} s r p => by
  unfold intF at p
  split at p
  · obtain ⟨u, rfl, ru⟩ := r.one_inv'
    simp only [VR] at ru; subst ru
    exact .inl ⟨_, rfl, p.ret (by simp only [RO, VR]) s⟩
  · obtain ⟨u, rfl, ru⟩ := r.one_inv'
    simp only [VR] at ru; subst ru
    exact .inr ⟨_, rfl, p.ret (by simp only [RO, VR]) s⟩
  · exact p.elim
/-! ## xs.index(y), s.split(sep) -/
def isLst (h : Hd) (x : D) : Bool := (lstOf h x).isSome
theorem isLst_ty {c : Ct} : TyS c "list" isLst := fun {w h H x v} s rx e => by
  unfold isLst at e
  obtain ⟨xs, ex⟩ := Option.isSome_iff_exists.mp e
  obtain ⟨a, vs, rfl, hq, _⟩ := lstOf_ok s rx ex
  exact .inl ⟨rfl, vs, SqL.of hq⟩
def indF (x : D) (ds : List D) (h : Hd) : Res O := match lstOf h x, ds with
  | some ys, [y] => if flatD y && ys.all flatD then (match ys.findIdx? fun z => eqFlat z y with
    | some j => .ok (.val (.int j)) h
    | none => .bad) else .bad
  | _, _ => .bad
theorem s_ind {c : Ct} : CallM c (rIndex c.K) indF := fun {w W σ h H v vs x ds Q} s rx rs p => by
  unfold indF at p
  split at p
  · rename_i ys y ey
    split at p
    · rename_i hf
      rw [Bool.and_eq_true] at hf
      split at p
      · rename_i j ej
        obtain ⟨a, us, rfl, hq, z⟩ := lstOf_ok s rx ey
        obtain ⟨u, rfl, ru⟩ := rs.one_inv'
        obtain ⟨hj, h1, h2⟩ := List.findIdx?_eq_some_iff_getElem.mp ej
        obtain ⟨zj, ez, rz⟩ := z.get (List.getElem?_eq_getElem hj)
        have fj : flatD ys[j] = true := List.all_eq_true.mp hf.2 _ (List.getElem_mem hj)
        refine ⟨a, us, u, j, zj, rfl, rfl, SqL.of hq, (flat_ok ru hf.1).1, flats_ok z hf.2, ez, by rw [← eqFlat_ok rz ru fj hf.1]; exact h1, fun m z' hm em => ?_, p.ret (by simp only [RO, VR]) s⟩
        obtain ⟨dm, edm, rm⟩ := z.get' em
        have hm' : m < ys.length := Nat.lt_trans hm hj
        rw [List.getElem?_eq_getElem hm'] at edm
        cases edm
        have fm : flatD ys[m] = true := List.all_eq_true.mp hf.2 _ (List.getElem_mem hm')
        rw [← eqFlat_ok rm ru fm hf.1]
        simpa using h2 m hm
      · exact p.elim
    · exact p.elim
  · exact p.elim
def isStr (_ : Hd) : D → Bool
  | .str _ => true
  | _ => false
def splF : D → List D → Hd → Res O
  | .str a, [.str b], h => if b.length ≠ 0 ∧ a.length ≤ 100000 then .ok (.new (.lst ((Txt.split a b).map .str))) h else .bad
  | _, _, _ => .bad
section
variable {X : Cx} {W : WX} {o e : Expr} {mo ma : ME} {apos pos : Pos}
def mSplit (mo ma : ME) : Env → Hd → Res O := fun ρ h => (mo ρ h).bind fun x h => if isStr h x then (ma ρ h).bind fun d h => splF x [d] h else .bad
theorem e_split (ho : SE X W o mo) (ha : SE X W e ma) (hs : starEach [e] X.env = [(false, eval e X.env)] := by rfl) (hbase : attributeBase o "split" X.env (eval o X.env) = eval o X.env := by rfl) (hline : (apos.endLine == pos.line) = true := by rfl) : SO X W (.Call (.Attribute o "split" apos) [e] [] pos) (mSplit mo ma) :=
  PE.imp (pe_split ho ha hs hbase hline) fun σ H Q q => by
  refine (tP.bind (k := fun ρ x h => if isStr h x then (ma ρ h).bind fun d h => splF x [d] h else .bad) q).mono fun v H1 ⟨w1, ρ, h1, d, e1, s1, r1, p1⟩ => ?_
  cases d with
  | str z =>
    simp only [VR] at r1
    subst r1
    rw [if_pos (by rfl)] at p1
    refine ⟨⟨z, rfl⟩, w1, ρ, h1, e1, s1, (Post.bind p1).mono fun u H2 ⟨w2, h2, d2, l2, r2, s2, p2⟩ => ?_⟩
    cases d2 with
    | str y =>
      simp only [VR] at r2
      subst r2
      simp only [splF] at p2
      split at p2
      · rename_i hz
        refine ⟨z, y, rfl, rfl, by simpa using hz.1, by rw [sizeLine_eq]; omega, fun b hb => ?_⟩
        obtain ⟨s3, r3⟩ := new_obj (z := .lst ((Txt.split z y).map .str)) s2 hb (by intro z; cases z) ⟨_, upd_same, VRs_strs _⟩
        exact p2 _ w2 _ (.refl _) r3 s3
      · exact p2.elim
    | _ => exact p2.elim
  | _ => exact p1.elim
end
/-! ## defs with keyword-only parameters -/
def mCallD (n : Nat) (m : List D → Hd → Res D) (dvs : List D) (ma : MA) : ME := fun ρ h => (ma ρ h).bind fun ds h => if ds.length = n then m (ds ++ dvs) h else .bad
def mCallK (n j : Nat) (m : List D → Hd → Res D) (ma mk : MA) : ME := fun ρ h => (ma ρ h).bind fun ds h => (mk ρ h).bind fun es h => if ds.length = n ∧ es.length = j then m (ds ++ es) h else .bad
structure CalleeK (P : Program) (w : World) (K : PySem.W.Frag) (mg : Str → Option Value) (base : Heap) (k : Nat) (x : Str) (n : Nat) (ks : List Str) (dvs : List D) (m : List D → Hd → Res D) : Prop where
  ex : ∃ (f : Addr) (fd : FuncData) (ps : List Str) (dfs : List V) (ds : List Value) (g : List Value → List Value → List Value), FnOk P w K mg base (L2.CX P w) k f fd ps (spM ⟨K, mg⟩ (n + ks.length) m) ∧ mg x = some (.ref f) ∧ PySem.W.keepIn K (.ref f) = true ∧
    Binds K fd ps ds ∧ Vals dfs ds ∧ (∀ w : Wd, VRs ⟨K, mg⟩ w dvs dfs) ∧ KBn K fd ps n ks g (fun vs zs => vs ++ zs) ∧ dvs.length = ks.length
def SK (X : Cx) (W : WX) (kws : List Keyword) (m : MA) : Prop := PK X kws (tAr (Cx.ct X) W m)
section
variable {X : Cx} {W : WX} {e : Expr} {es : List Expr} {kws : List Keyword} {ma : ME} {mas mks : MA} {pos p kpos : Pos} {x : Str} {k n : Nat} {ks : List Str} {dvs : List D} {m : List D → Hd → Res D} {nm : Option Str}
theorem k_nil : SK X W [] aNil := ⟨fun pos pins s σ H Q I ⟨w, ρ, h, e, sr, p⟩ => pk_nil.run pos pins s σ H Q I (p.ret .nil sr)⟩
theorem k_cons (ha : SE X W e ma) (hr : SK X W kws mks) : SK X W (⟨nm, e, kpos⟩ :: kws) (aCons ma mks) := ⟨fun pos pins s σ H Q I q => (pk_cons ha hr).run pos pins s σ H Q I (by
  refine (tP.bind (k := fun ρ d h => (mks ρ h).bind fun ds h => .ok (d :: ds) h) q).mono fun v H1 ⟨w1, ρ, h1, d, e1, s1, r1, p1⟩ => ?_
  refine ⟨w1, ρ, h1, e1, s1, (Post.bind p1).mono fun vs H2 ⟨w2, h2, ds, l2, r2, s2, p2⟩ => ?_⟩
  exact p2.ret (.cons (r1.le l2) r2) s2)⟩
theorem e_callD (C : CalleeK X.prog X.w X.K X.mg X.base k x n ks dvs m) (hr : Room k X.A) (tk : Takes X W) (ha : SA X W (e :: es) mas) (hg : Gl X x := by rfl) (hdb : (x == ("__debug__" : Str)) = false := by decide)
    (he : starEach (e :: es) X.env = (false, eval e X.env) :: starEach es X.env := by rfl) (hpl : (backTo pos (starEach es X.env)).any (·.1) = false := by rfl) : SE X W (.Call (.Name x p) (e :: es) [] pos) (mCallD n m dvs mas) := by
  obtain ⟨f, fd, ps, dfs, ds, g, F, hm, hk, hb, hd, hv, _, hl⟩ := C.ex
  refine PE.imp (pe_callSD (E := WE W) F hr hg hm hk hb hd (passAt tk) ha hdb he hpl) fun σ H Q q => ?_
  refine (tP.bind (k := fun ρ ds h => if ds.length = n then m (ds ++ dvs) h else .bad) q).mono fun vs H1 ⟨w1, ρ, h1, as, e1, s1, r1, p1⟩ => ?_
  split at p1
  · rename_i hn
    refine ⟨w1, as ++ dvs, h1, r1.append (hv w1), s1, by rw [List.length_append, hn, hl], ?_⟩
    cases q : m (as ++ dvs) h1 with
    | ok d h2 => rw [q] at p1; exact p1
    | exc x h2 => rw [q] at p1; exact p1
    | bad => rw [q] at p1; exact p1
  · exact p1.elim
theorem e_callK {j : Nat} (C : CalleeK X.prog X.w X.K X.mg X.base k x n ks dvs m) (hr : Room k X.A) (tk : Takes X W) (ha : SA X W (e :: es) mas) (hkw : SK X W kws mks) (hks : (backToKw pos (keywordEach kws X.env)).filterMap (·.1) = ks := by rfl) (hj : ks.length = j := by rfl) (hg : Gl X x := by rfl) (hdb : (x == ("__debug__" : Str)) = false := by decide)
    (hall : (backToKw pos (keywordEach kws X.env)).all (·.1.isSome) = true := by rfl) (he : starEach (e :: es) X.env = (false, eval e X.env) :: starEach es X.env := by rfl)
    (hpl : ((backTo pos (starEach (e :: es) X.env)).any (·.1) || (backToKw pos (keywordEach kws X.env)).any (·.1.isNone)) = false := by rfl) : SE X W (.Call (.Name x p) (e :: es) kws pos) (mCallK n j m mas mks) := by
  subst hj
  obtain ⟨f, fd, ps, dfs, ds, g, F, hm, hk, _, _, _, hb, hl⟩ := C.ex
  refine PE.imp (pe_callNS (E := WE W) F hr hg hm hk hb (passAt tk) ha hkw hall hks hdb he hpl) fun σ H Q q => ?_
  refine (tP.bind (k := fun ρ ds h => (mks ρ h).bind fun es h => if ds.length = n ∧ es.length = ks.length then m (ds ++ es) h else .bad) q).mono fun vs H1 ⟨w1, ρ, h1, as, e1, s1, r1, p1⟩ => ?_
  refine ⟨w1, ρ, h1, e1, s1, (Post.bind p1).mono fun zs H2 ⟨w2, h2, bs, l2, r2, s2, p2⟩ => ?_⟩
  split at p2
  · rename_i hn
    refine ⟨by rw [← r1.len]; exact hn.1, by rw [← r2.len]; exact hn.2, w2, as ++ bs, h2, (r1.le l2).append r2, s2, by rw [List.length_append, hn.1, hn.2], ?_⟩
    cases q : m (as ++ bs) h2 with
    | ok d h2 => rw [q] at p2; exact p2
    | exc x h2 => rw [q] at p2; exact p2
    | bad => rw [q] at p2; exact p2
  · exact p2.elim
end
theorem CalleeK.mono {P : Program} {w : World} {K : PySem.W.Frag} {mg : Str → Option Value} {base : Heap} {k j n : Nat} {x : Str} {ks : List Str} {dvs : List D} {m : List D → Hd → Res D} (C : CalleeK P w K mg base j x n ks dvs m) (h : j ≤ k) : CalleeK P w K mg base k x n ks dvs m :=
  let ⟨f, fd, ps, dfs, ds, g, F, r⟩ := C.ex
  ⟨f, fd, ps, dfs, ds, g, F.mono h, r⟩
end DD
set_option Elab.async false
set_option linter.all false
set_option maxRecDepth 100000
set_option maxHeartbeats 4000000
namespace DD
open PySem PySem.Spec L2 RZ
/-! ## the module's own constants -/
structure KCon (K : PySem.W.Frag) (mg : Str → Option Value) (x : Str) (d : D) : Prop where
  ex : ∃ v u, mg x = some u ∧ RelV v u ∧ ∀ wd : Wd, VR ⟨K, mg⟩ wd d v
theorem e_con {X : Cx} {W : WX} {p : Pos} {x : Str} {d : D} (hc : KCon X.K X.mg x d) (hg : Gl X x := by rfl) (hdb : (x == ("__debug__" : Str)) = false := by decide) : SE X W (.Name x p) (mC d) := by
  obtain ⟨v, u, hm, r, rv⟩ := hc.ex
  exact e_glob hm r rv hg hdb
/-- a written value is the datum d -/
def KRel (K : PySem.W.Frag) (mg : Str → Option Value) (d : D) (u : Value) : Prop := ∃ v, RelV v u ∧ ∀ wd : Wd, VR ⟨K, mg⟩ wd d v
theorem kr_str {K : PySem.W.Frag} {mg : Str → Option Value} {s : Str} {t : Tok} : KRel K mg (.str s) (.str s t) := ⟨.str s, ⟨_, rfl⟩, fun wd => by simp only [VR]⟩
theorem kr_int {K : PySem.W.Frag} {mg : Str → Option Value} {i : Int} {t : Tok} : KRel K mg (.int i) (.int i t) := ⟨.int i, ⟨_, rfl⟩, fun wd => by simp only [VR]⟩
theorem kr_bl {K : PySem.W.Frag} {mg : Str → Option Value} {b : Bool} : KRel K mg (.bl b) (.bool b) := ⟨.bl b, rfl, fun wd => by simp only [VR]⟩
def KRels (K : PySem.W.Frag) (mg : Str → Option Value) : List D → List Value → Prop
  | [], [] => True
  | d :: ds, u :: us => KRel K mg d u ∧ KRels K mg ds us
  | _, _ => False
theorem KRels.ex {K : PySem.W.Frag} {mg : Str → Option Value} : ∀ {ds : List D} {us : List Value}, KRels K mg ds us → ∃ vs, Vals vs us ∧ ∀ wd : Wd, VRs ⟨K, mg⟩ wd ds vs
  | [], [], _ => ⟨[], .nil, fun _ => .nil⟩
  | d :: ds, u :: us, h => by
    obtain ⟨v, r, rv⟩ := h.1
    obtain ⟨vs, rs, rvs⟩ := KRels.ex h.2
    exact ⟨v :: vs, .cons r rs, fun wd => .cons (rv wd) (rvs wd)⟩
  | [], _ :: _, h => h.elim
  | _ :: _, [], h => h.elim
theorem kr_tup {K : PySem.W.Frag} {mg : Str → Option Value} {a : Addr} {ds : List D} {its : Array Value} {n : Nat} {od : Option Addr} {sl : Array (Option Value)} (l : K.lookup a = some ⟨.type "tuple", od, .seq its n, sl⟩) (r : KRels K mg ds its.toList) (hz : ds.length ≤ 1000) : KRel K mg (.ktp ds) (.ref a) := by
  obtain ⟨vs, rs, rvs⟩ := r.ex
  refine ⟨.ref a, rfl, fun wd => ?_⟩
  simp only [VR]
  refine ⟨a, vs, rfl, ⟨_, its, n, l, rfl, rfl, ?_, rs⟩, rvs wd⟩
  have h1 : vs.length = its.toList.length := rs.length
  have h2 := (rvs wd).len
  have h3 : its.toList.length = its.size := Array.length_toList
  rw [sizeLine_eq]
  omega
theorem kcon_mk {K : PySem.W.Frag} {h : Heap} {mg : Str → Option Value} {x : Str} {d : D} {u : Value} (X : K.In h) (G : h.Ns mainGlobals mg) (a : PySem.W.nsIn K mainGlobals x = some (some u)) (r : KRel K mg d u) : KCon K mg x d := by
  obtain ⟨v, rv, q⟩ := r
  exact ⟨v, u, PySem.W.mg_of X G a, rv, q⟩
/-- the entries of a written dict -/
def EntsOk (K : PySem.W.Frag) (mg : Str → Option Value) (P : Params) : List DictEntry → List (Str × D) → Prop
  | [], [] => True
  | e :: es, p :: kvs => ((∃ t, e.key = .str p.1 t) ∧ e.hash = PyData.keyHash P p.1 ∧ KRel K mg p.2 e.val) ∧ EntsOk K mg P es kvs
  | _, _ => False
theorem EntsOk.lit {K : PySem.W.Frag} {mg : Str → Option Value} {P : Params} : ∀ {es : List DictEntry} {kvs : List (Str × D)}, EntsOk K mg P es kvs → PySem.W.KeysLit P es
  | [], [], _ => trivial
  | e :: es, p :: kvs, h => by
    obtain ⟨⟨⟨t, e1⟩, e2, _⟩, r⟩ := h
    exact ⟨⟨p.1, t, e1, e2⟩, r.lit⟩
  | [], _ :: _, h => h.elim
  | _ :: _, [], h => h.elim
theorem EntsOk.find {K : PySem.W.Frag} {mg : Str → Option Value} {P : Params} {z : Str} : ∀ {es : List DictEntry} {kvs : List (Str × D)}, EntsOk K mg P es kvs →
    (es.any (·.refKey) = false) ∧ (match kvs.lookup z with
      | some dv => ∃ e, es.find? (·.key.isStr z) = some e ∧ KRel K mg dv e.val
      | none => es.find? (·.key.isStr z) = none)
  | [], [], _ => ⟨rfl, rfl⟩
  | e :: es, p :: kvs, h => by
    obtain ⟨⟨⟨t, e1⟩, e2, q⟩, r⟩ := h
    obtain ⟨f1, f2⟩ := EntsOk.find (z := z) r
    have ek : e.key.isStr z = (p.1 == z) := by rw [e1]; rfl
    refine ⟨?_, ?_⟩
    · rw [List.any_cons, f1, Bool.or_false]
      obtain ⟨hh, kk, vv⟩ := e
      simp only at e1
      subst e1
      rfl
    · rw [List.lookup_cons, List.find?_cons, ek]
      by_cases hz : z = p.1
      · subst hz
        simp only [beq_self_eq_true]
        exact ⟨e, rfl, q⟩
      · rw [show (z == p.1) = false by simpa using hz, show (p.1 == z) = false by simpa using fun h => hz h.symm]
        exact f2
  | [], _ :: _, h => h.elim
  | _ :: _, [], h => h.elim
theorem kdat_mk {K : PySem.W.Frag} {w : World} {h : Heap} {mg : Str → Option Value} {x : Str} {d : Addr} {es : Array DictEntry} {n : Nat} {kvs : List (Str × D)} (X : K.In h) (G : h.Ns mainGlobals mg) (a : PySem.W.nsIn K mainGlobals x = some (some (.ref d)))
    (l : K.lookup d = some ⟨.type "dict", none, .dict es n, #[]⟩) (low : (d == sysModules) = false) (r : EntsOk K mg w.params es.toList kvs) : KDat K w mg x kvs := by
  refine ⟨d, es, n, PySem.W.mg_of X G a, ⟨l, r.lit, low⟩, fun z => ?_⟩
  have f := r.find (z := z)
  unfold PySem.W.nsIn
  rw [l]
  cases e : kvs.lookup z with
  | some dv =>
    rw [e] at f
    obtain ⟨_, e0, e1, v, rv, q⟩ := f
    exact ⟨e0.val, v, by simp only [e1], rv, q⟩
  | none =>
    rw [e] at f
    simp only [f.2, f.1]
    rfl
/-! ## a def with keyword-only parameters -/
structure DefK (K : PySem.W.Frag) (mg : Str → Option Value) (x : Str) (st : Stmt) (ps : List Str) (n : Nat) (ks : List Str) (dvs : List D) (f : Addr) (fd : FuncData) : Prop where
  F : ∃ kws : List (Str × V), FunD K x x (defArgs st) (defBody st) (defScope st) [] kws f fd
  m : mg x = some (.ref f)
  b : ∃ (dfs : List V) (ds : List Value) (g : List Value → List Value → List Value), Binds K fd ps ds ∧ Vals dfs ds ∧ (∀ w : Wd, VRs ⟨K, mg⟩ w dvs dfs) ∧ KBn K fd ps n ks g (fun vs zs => vs ++ zs) ∧ dvs.length = ks.length
section
variable {P : Program} {w : World} {K : PySem.W.Frag} {mg : Str → Option Value} {base : Heap} {x : Str} {st : Stmt} {ps ks N : List Str} {f : Addr} {fd : FuncData} {k n : Nat} {dvs : List D} {b : MS} {m : List D → Hd → Res D}
theorem DefK.callee (A : DefK K mg x st ps n ks dvs f fd) (F : FnOk P w K mg base (L2.CX P w) k f fd ps (spM ⟨K, mg⟩ (n + ks.length) m)) : CalleeK P w K mg base k x n ks dvs m := by
  obtain ⟨dfs, ds, g, h1, h2, h3, h4, h5⟩ := A.b
  obtain ⟨kws, F0⟩ := A.F
  exact ⟨f, fd, ps, dfs, ds, g, F, A.m, F0.kp, h1, h2, h3, h4, h5⟩
theorem fn_okK (A : DefK K mg x st ps n ks dvs f fd) (S : FnScope N ps (defScope st))
    (hbody : ∀ (cdv : Value) (A : Around) (outer : List PySem.Env) (s : Shared) (H : Hp) (E : XK), Room k (A.deeper (PyProof.Rows.envOfC x (defScope st) s.heap.objs.size f cdv)) →
      SSs (cxOf (L2.CX P w) P w K mg base N x (defScope st) f cdv A outer s H E) (fun cls d _ H => E cls d H) (defBody st) b) : FnOk P w K mg base (L2.CX P w) (k + 1) f fd ps (spM ⟨K, mg⟩ ps.length (runB N.length b)) := by
  obtain ⟨kws, F⟩ := A.F
  refine F.ok S (fun vs H Q E ⟨w, ds, h, r, s, hl, p⟩ => by rw [← r.len]; exact hl) (fun cdv A outer s H vs Q E hr ⟨w', ds, h, r, sr, hl, p⟩ => ?_)
  refine ⟨_, hbody cdv A outer s H E hr, w', startD N.length ds, h, ER.start r, sr, ?_⟩
  unfold runB at p
  cases q : b (startD N.length ds) h with
  | nx ρ h1 => rw [q] at p; exact fun σ w2 H2 l e s => p .non w2 H2 l (by simp only [VR]) s
  | rt d h1 => rw [q] at p; exact p
  | bk ρ h1 => rw [q] at p; exact p.elim
  | ct ρ h1 => rw [q] at p; exact p.elim
  | exc y ρ h1 => rw [q] at p; exact fun cls dx σ w2 H2 l e s x => p cls dx w2 H2 l s x
  | bad => rw [q] at p; exact p
theorem def_mkK {h : Heap} {oc u : Value} {od an : Option Addr} {osl : Array (Option Value)} {doc pm cdv ct : Value} {Dk : Addr} {y : Str} {d : D} (X : K.In h) (G : h.Ns mainGlobals mg) (a : PySem.W.nsIn K mainGlobals x = some (some (.ref f)))
    (l : K.lookup f = some ⟨oc, od, .func (PySem.W.fnOf x x (defArgs st) (defBody st) (defScope st) .none (.ref Dk) doc pm an cdv ct), osl⟩) (c : PySem.W.codeIn K cdv x = true) (k : PySem.W.keepIn K (.ref f) = true)
    (kd : PySem.W.nsIn K Dk y = some (some u)) (r : KRel K mg d u) (hn : n + 1 = ps.length)
    (hb : ∀ (Dd : Addr) (doc pm : Value) (an : Option Addr) (cdv ct : Value) (us ks : List Value), us.length = n → ks.length = 1 → KwChain Dd ([y].zip ks) (bindArgs (PySem.W.fnOf x x (defArgs st) (defBody st) (defScope st) .none (.ref Dd) doc pm an cdv ct) ⟨us, []⟩) (ps.zip (us ++ ks)))
    (hk : ∀ (Dd : Addr) (doc pm : Value) (an : Option Addr) (cdv ct : Value) (us ws : List Value), us.length = n → ws.length = 1 → bindArgs (PySem.W.fnOf x x (defArgs st) (defBody st) (defScope st) .none (.ref Dd) doc pm an cdv ct) ⟨us, [y].zip ws⟩ = pure (ps.zip (us ++ ws))) :
    DefK K mg x st ps n [y] [d] f (PySem.W.fnOf x x (defArgs st) (defBody st) (defScope st) .none (.ref Dk) doc pm an cdv ct) := by
  obtain ⟨v, rv, q⟩ := r
  have F : FunD K x x (defArgs st) (defBody st) (defScope st) [] [(y, v)] f (PySem.W.fnOf x x (defArgs st) (defBody st) (defScope st) .none (.ref Dk) doc pm an cdv ct) :=
    ⟨⟨oc, od, .none, .ref Dk, doc, pm, an, cdv, ct, osl, rfl, l, c, .inl ⟨rfl, rfl⟩, .inr ⟨Dk, rfl, fun p hp => by rw [List.mem_singleton.mp hp]; exact ⟨u, kd, rv⟩⟩⟩, k⟩
  obtain ⟨ds, h1, h2⟩ := F.binds0 (ps := ps) n (by simp) hn fun D doc pm an cdv ct us ks e1 e2 => hb D doc pm an cdv ct us ks e1 e2
  obtain ⟨mv, h3⟩ := F.kbinds0 (ps := ps) n [y] [] (fun us _ ws => us ++ ws) (by simp) (fun p hp => by cases hp) (fun r1 _ r3 => r1.append r3) fun D doc pm an cdv ct us mv ws e1 _ e3 => hk D doc pm an cdv ct us ws e1 e3
  exact ⟨⟨_, F⟩, PySem.W.mg_of X G a, [v], ds, _, h2, h1, fun w => .one (q w), h3, rfl⟩
end
end DD
set_option Elab.async false
set_option linter.all false
set_option maxRecDepth 100000
set_option maxHeartbeats 4000000
namespace DD
open PySem PySem.Spec L2 RZ
/-! ## a, b = e1, e2 (two local names) -/
def parK (i j : Nat) : List D → Env → Hd → Fl
  | [a, b], ρ, h => .nx ((ρ.set i (some a)).set j (some b)) h
  | _, _, _ => .bad
def mPar (i j : Nat) (ma : MA) : MS := liftR ma (parK i j)
section
variable {X : Cx} {W : WX} {a b : Expr} {mas : MA} {x y : Str} {px py pt pt2 pos : Pos} {kt k2 : Nat}
theorem s_par (i j : Nat) (hN : X.N.Nodup) (ha : SA X W [a, b] mas) (hc : X.calm = true := by rfl) (hi : X.N[i]? = some x := by rfl) (hj : X.N[j]? = some y := by rfl) (hij : i ≠ j := by decide)
    (hx : X.env.scope.names.lookup x = some .local := by rfl) (hy : X.env.scope.names.lookup y = some .local := by rfl) (hw : swappedStores [.Tuple [.Name x px, .Name y py] kt pt] (.Tuple [a, b] k2 pt2) X.env = pure (some [x, y]) := by rfl)
    (hs : swapsWithSole [.Tuple [.Name x px, .Name y py] kt pt] (.Tuple [a, b] k2 pt2) pos.line X.env = pure false := by rfl) : SS X W (.Assign [.Tuple [.Name x px, .Name y py] kt pt] (.Tuple [a, b] k2 pt2) pos) (mPar i j mas) :=
  PS.imp (ps_par hc hN hi hj hij hx hy ha hw hs) fun Dn σ H q => by
  refine (tS.lift q).mono fun vs H1 ⟨w1, ρ, h1, ds, e1, s1, r1, p1⟩ => ?_
  unfold parK at p1
  split at p1
  · rename_i da db
    simp only [VRs] at r1
    obtain ⟨v, r2, rfl, rv, u, r3, rfl, ru, rfl⟩ := r1
    exact ⟨v, u, rfl, p1.nx ((e1.set i rv).set j ru) s1⟩
  · exact p1.elim
def parKK (i j : Nat) (ρ : Env) : Res (List D) → Fl
  | .ok ds h => parK i j ds ρ h
  | .exc x h => .exc x ρ h
  | .bad => .bad
@[simp] theorem parKK_ok (i j : Nat) (ρ : Env) (a b : D) (h : Hd) : parKK i j ρ (.ok [a, b] h) = .nx ((ρ.set i (some a)).set j (some b)) h := rfl
@[simp] theorem mPar_k (i j : Nat) (ma : MA) (ρ : Env) (h : Hd) : mPar i j ma ρ h = parKK i j ρ (ma ρ h) := by unfold mPar liftR parKK; cases ma ρ h <;> rfl
end
end DD
set_option Elab.async false
set_option linter.all false
set_option maxRecDepth 100000
set_option maxHeartbeats 4000000
namespace RZ
open PySem PySem.Spec PyProof.Rows L2
/-- a text's signs and the items of the tuple at b, in new pairs -/
def Itst (K : PySem.W.Frag) (x : Str) (b : Addr) : It :=
  ⟨fun i H => ∃ (ys : List V) (y : V), SqT K H b ys ∧ ys[i]? = some y ∧ i < x.cps.size,
    fun i H v H' => ∃ (T : Addr) (c : Nat) (y : V), v = .ref T ∧ H T = none ∧ H' = upd H T (.tup [.str ⟨#[c]⟩, y]) ∧ x.cps[i]? = some c ∧ ∀ ys, SqT K H b ys → ys[i]? = some y,
    fun i H => ∃ ys : List V, SqT K H b ys ∧ (i = x.cps.size ∨ i = ys.length) ∧ i ≤ x.cps.size ∧ i ≤ ys.length⟩
theorem turn_zipS {P : Program} {w : World} {K : PySem.W.Frag} {elts : List Expr} {kk : Nat} {tpos : Pos} {x : Str} {t : Tok} {b z TI TO i1 i2 : Addr} (D : ZipSep2 z TI TO i1 i2 [i1] [i2, b]) (hbi : b ≠ i2) :
    Turn P w K (.Tuple elts kk tpos) (Itst K x b) [z, TI, TO, i1, i2] z (fun i h => IsZip h z TI TO .none ∧ IsPair h TI (.ref i1) (.ref i2) ∧ (∃ x y, IsPair h TO x y) ∧ h.IsStrIter i1 (strIterType x) x t i ∧ h.IsTupleIter i2 b i) where
  mem := by simp
  obj := fun i h st c hc => by
    obtain ⟨hz, hTI, ⟨x, y, hTO⟩, ⟨o1, e1, _, d1⟩, ⟨o2, e2, _, d2⟩⟩ := st
    have e' : c = z ∨ c = TI ∨ c = TO ∨ c = i1 ∨ c = i2 := by simpa using hc
    rcases e' with q | q | q | q | q
    · rw [q]; exact ⟨_, hz, fun v q => nomatch q⟩
    · rw [q]; exact ⟨_, hTI, fun v q => nomatch q⟩
    · rw [q]; exact ⟨_, hTO, fun v q => nomatch q⟩
    · rw [q]; exact ⟨o1, e1, fun v q => by rw [d1] at q; cases q⟩
    · rw [q]; exact ⟨o2, e2, fun v q => by rw [d2] at q; cases q⟩
  keep := fun i h h' st k => by
    obtain ⟨hz, hTI, ⟨x, y, hTO⟩, ⟨o1, e1, r1⟩, h2⟩ := st
    exact ⟨k z (by simp) _ hz, k TI (by simp) _ hTI, ⟨x, y, k TO (by simp) _ hTO⟩, ⟨o1, k i1 (by simp) _ e1, r1⟩, h2.at fun o q => k i2 (by simp) o q⟩
  item := by
    intro X hP hw hK hc i pins s σ H E I hf st hg
    subst hP hw hK
    obtain ⟨hz, hTI, ⟨x0, y0, hTO⟩, h1, h2⟩ := st
    obtain ⟨ys, y, hqy, hy, hlt⟩ := hg
    obtain ⟨its2, rv2, p2, _⟩ := I.tuple hqy
    obtain ⟨u2, hu2, ru2⟩ := rv2.get hy
    have hh := I.ok.hd hc
    have hzl : z < s.heap.objs.size := Heap.lt_size hz
    have hlt2 : i < its2.toArray.size := by
      have h1 := rv2.length
      have h2 : i < ys.length := (List.getElem?_eq_some_iff.mp hy).1
      simp; omega
    refine wpAny_pyNext_zipD2_item (i := i) (St1 := fun i h => h.IsStrIter i1 (strIterType x) x t i) (St2 := fun i h => h.IsTupleIter i2 b i ∧ h.IsTuple b its2.toArray) D (Draws.text (A := X.A.in1) hh i1 x t) (Draws.tuple (A := X.A.in1) hh i2 b hbi its2.toArray) hz hTI hTO h1 ⟨h2, p2⟩ hlt hlt2 fun x1 x2 h' tk g1 g2 z' TO' h1' h2' hT hsz hk => ?_
    obtain ⟨c, uc, hcx, rfl⟩ := g1
    refine ⟨_, rfl, wpAny_letOwnedTupleGo_zip (s := { s with heap := h', toks := tk }) z' fun h'' z'' sb => ?_⟩
    have hT2 : h''.get? s.heap.objs.size = some { cls := .type "tuple", data := .seq #[.str ⟨#[c]⟩ uc, x2] } := (sb.2 _ (Nat.ne_of_gt hzl)).trans hT
    have ex2 : x2 = u2 := by
      have q : its2.toArray[i]? = some x2 := g2
      have q' : its2[i]? = some x2 := by simpa using q
      rw [hu2] at q'; exact (Option.some.inj q').symm
    subst ex2
    have new : ObjOk X.prog X.w (upd H s.heap.objs.size (.tup [.str ⟨#[c]⟩, y])) h'' s.heap.objs.size (.tup [.str ⟨#[c]⟩, y]) :=
      ⟨by show 2 ≤ sizeLine; decide, [.str ⟨#[c]⟩ uc, x2], .cons ⟨uc, rfl⟩ (.cons ru2 .nil), ⟨_, hT2, rfl, _, rfl⟩⟩
    have I1 : Inv X pins σ (upd H s.heap.objs.size (.tup [.str ⟨#[c]⟩, y])) { s with heap := h'', toks := tk } :=
      I.turnedNew (t' := tk) (ch := [z, TI, TO, i1, i2]) (fun c o hb q => (sb.2 c (fun q' => hb (by simp [q']))).trans (hk c o (fun q' => hb (by simp [q'])) (fun q' => hb (by simp [q'])) (fun q' => hb (by simp [q'])) (fun q' => hb (by simp [q'])) q)) hf (Nat.le_refl _) new
    refine ⟨.ref s.heap.objs.size, _, I1, rfl, ⟨_, c, y, rfl, I.hok.fresh (Nat.le_refl _), rfl, hcx, fun l hl => by rw [I.tuple_inj hl hqy]; exact hy⟩, ⟨z'', ?_, ⟨.str ⟨#[c]⟩ uc, x2, ?_⟩, ?_, ?_⟩, fun c hcm => ?_⟩
    · exact (sb.2 _ D.TIz).trans (hk _ _ D.TIz D.TITO D.TIi1 D.TIi2 hTI)
    · exact (sb.2 _ D.TOz).trans TO'
    · obtain ⟨o1, e1, r1⟩ := h1'
      exact ⟨o1, (sb.2 _ D.zi1.symm).trans e1, r1⟩
    · exact h2'.1.at fun o q => (sb.2 _ D.zi2.symm).trans q
    · have hlt : c < s.heap.objs.size := by
        have e' : c = z ∨ c = TI ∨ c = TO ∨ c = i1 ∨ c = i2 := by simpa using hcm
        rcases e' with q | q | q | q | q
        · rw [q]; exact hzl
        · rw [q]; exact Heap.lt_size hTI
        · rw [q]; exact Heap.lt_size hTO
        · rw [q]; obtain ⟨_, e1, _⟩ := h1; exact Heap.lt_size e1
        · rw [q]; obtain ⟨_, e2, _⟩ := h2; exact Heap.lt_size e2
      rw [upd_ne (Nat.ne_of_lt hlt)]
      exact (hf c hcm).1
  done := by
    intro X hP hw hK hc i pins s σ H E I hf st hg
    subst hP hw hK
    obtain ⟨hz, hTI, ⟨x0, y0, hTO⟩, h1, h2⟩ := st
    obtain ⟨ys, hqy, hend, hl1, hl2⟩ := hg
    obtain ⟨its2, rv2, p2, _⟩ := I.tuple hqy
    have l2 := rv2.length
    have hh := I.ok.hd hc
    have e2 : its2.toArray.size = ys.length := by simp; omega
    exact wpAny_pyNext_zipD2_end (i := i) (St1 := fun i h => h.IsStrIter i1 (strIterType x) x t i) (St2 := fun i h => h.IsTupleIter i2 b i ∧ h.IsTuple b its2.toArray) D (Draws.text (A := X.A.in1) hh i1 x t) (Draws.tuple (A := X.A.in1) hh i2 b hbi its2.toArray) hz hTI hTO h1 ⟨h2, p2⟩ hl1 (by omega) (by omega) fun h' tk hk => ⟨rfl, I.turnedL (t' := tk) (ch := [z, TI, TO, i1, i2]) (fun c o hb q =>
      hk c o (fun q' => hb (by simp [q'])) (fun q' => hb (by simp [q'])) (fun q' => hb (by simp [q'])) (fun q' => hb (by simp [q'])) q) hf⟩
  self := fun A i s Q E st h => wpAny_pyIter_zip st.1 h
theorem sep5 {n b : Nat} (h : b < n) : ZipSep2 (n + 4) (n + 2) (n + 3) n (n + 1) [n] [n + 1, b] := by
  have a1 : n + 2 ≠ n + 4 := by omega
  have a2 : n + 3 ≠ n + 4 := by omega
  have a3 : n + 2 ≠ n + 3 := by omega
  have a4 : n + 2 ≠ n := by omega
  have a5 : n ∈ [n] := by simp
  have a6 : n + 4 ∉ [n] := by simp
  have a7 : n + 3 ∉ [n] := by simp
  have a8 : n + 2 ≠ n + 1 := by omega
  have a9 : n + 1 ∈ [n + 1, b] := by simp
  have b1 : n + 4 ∉ [n + 1, b] := by simp; omega
  have b2 : n + 3 ∉ [n + 1, b] := by simp; omega
  have b3 : n ∉ [n + 1, b] := by simp; omega
  have b4 : n + 1 ∉ [n] := by simp
  exact ⟨a1, a2, a3, a4, a5, a6, a7, a8, a9, b1, b2, b3, b4⟩
def iZipS (K : PySem.W.Frag) (ta : TA) : TI := fun σ H R => ta σ H fun vs H1 => ∃ (x : Str) (b : Addr) (ys : List V), vs = [.str x, .ref b] ∧ SqT K H1 b ys ∧ R (Itst K x b) H1
theorem pi_zipS {X : Cx} {e e2 : Expr} {ta : TA} {p pos tpos : Pos} {elts : List Expr} {kk : Nat} (hg : Gl X "zip") (hm : X.mg "zip" = none) (ha : PA X [e, e2] ta)
    (hs : starEach [e, e2] X.env = (false, eval e X.env) :: starEach [e2] X.env := by rfl) (hpl : (backTo pos (starEach [e2] X.env)).any (·.1) = false := by rfl) :
    PI X (.Tuple elts kk tpos) (.Call (.Name "zip" p) [e, e2] [] pos) (iZipS X.K ta) := by
  refine ⟨fun pins s σ H R I h => ?_⟩
  refine Call_ (ld_blt I hg hm PyProof.Rows.boot_zip (PyProof.Rows.callWith_type1 (thn (ha.run pos pins s σ H _ I h) fun us s1 ⟨vs, H1, I1, r1, q1⟩ => ?_) hs hpl))
  obtain ⟨x, b, ys, ex, hqy, q⟩ := q1
  subst ex
  cases r1 with
  | cons r rr =>
    cases rr with
    | cons r' rr =>
      cases rr
      obtain ⟨t, rfl⟩ := r
      cases r'
      have fresh5 : ∀ c, c ∈ [s1.heap.objs.size + 4, s1.heap.objs.size + 2, s1.heap.objs.size + 3, s1.heap.objs.size, s1.heap.objs.size + 1] → FpOk X pins H1 c := fun c hcm => by
        have e' : c = s1.heap.objs.size + 4 ∨ c = s1.heap.objs.size + 2 ∨ c = s1.heap.objs.size + 3 ∨ c = s1.heap.objs.size ∨ c = s1.heap.objs.size + 1 := by simpa using hcm
        have hle : s1.heap.objs.size ≤ c := by
          rcases e' with z | z | z | z | z
          · rw [z]; exact Nat.le_add_right _ _
          · rw [z]; exact Nat.le_add_right _ _
          · rw [z]; exact Nat.le_add_right _ _
          · rw [z]; exact Nat.le_refl _
          · rw [z]; exact Nat.le_add_right _ _
        exact I1.fpOk hle (I1.hok.fresh hle)
      obtain ⟨its2, rv2, p2, _⟩ := I1.tuple hqy
      obtain ⟨o2, ho2, _⟩ := id p2
      have hb : b < s1.heap.objs.size := Heap.lt_size ho2
      refine zip_begins2 (begins_text x t) (begins_tuple b its2.toArray) trivial (show s1.heap.IsTuple b its2.toArray from p2) fun h' hz hTI hTO h1 h2 hsz hk => wpAny_pyIter_zip hz ?_
      have I2 : Inv X pins σ H1 { s1 with heap := h' } := I1.kept (t' := s1.toks) hk
      refine ⟨s1.heap.objs.size + 4, [s1.heap.objs.size + 4, s1.heap.objs.size + 2, s1.heap.objs.size + 3, s1.heap.objs.size, s1.heap.objs.size + 1], _, _, H1, rfl, I2, turn_zipS (x := x) (t := t) (sep5 hb) (Nat.ne_of_lt (Nat.lt_succ_of_lt hb)), ⟨hz, hTI, ⟨_, _, hTO⟩, ⟨_, h1, rfl, rfl⟩, ⟨_, h2, rfl, rfl⟩⟩, fresh5, q⟩
end RZ

namespace DD
open PySem PySem.Spec L2 RZ
theorem srcZS {c : Ct} {w : Wd} {x : Str} {b : Addr} {us : List V} {ys : List D} (qb : TpAt c.K w.F b us) (ry : VRs c w ys us) : SrcOk c w ⟨zipD (signs x) ys, fun _ => True⟩ (Itst c.K x b) := by
  have sl : (signs x).length = x.cps.size := by simp [signs]
  refine ⟨fun H => SqT c.K H b us, fun i H v H' => ∃ (T : Addr) (k : Nat) (y : V), v = .ref T ∧ H T = none ∧ H' = upd H T (.tup [.str ⟨#[k]⟩, y]) ∧ x.cps[i]? = some k ∧ ∀ ys, SqT c.K H b ys → ys[i]? = some y,
    ⟨fun i H hi g => ?_, fun H g => ?_, fun i H x H' hi g y => y⟩, fun w2 h2 H2 l s ck => ?_, fun i v H2 H3 w2 h2 hi l s ck y => ?_⟩
  · rw [zipD_len, sl, ry.len] at hi
    have h2 : i < us.length := by omega
    exact ⟨us, us[i], g, List.getElem?_eq_getElem h2, by omega⟩
  · refine ⟨us, g, ?_, ?_, ?_⟩ <;> (rw [zipD_len, sl, ry.len]; omega)
  · exact SqT_le (fun a o q => s.F a o (l.F a o q)) qb
  · have f := fun a o q => s.F a o (l.F a o q)
    obtain ⟨T, k, q, rfl, hn, rfl, y1, y2⟩ := y
    obtain ⟨d2, e2, r2⟩ := ry.get' (y2 _ (SqT_le f qb))
    have e1 : (signs x)[i]? = some (.str ⟨#[k]⟩) := by simp [signs, y1]
    obtain ⟨w3, l3, s3, r3⟩ := new_tup (ds := [.str ⟨#[k]⟩, d2]) (vs := [.str ⟨#[k]⟩, q]) s (.cons (by simp only [VR]) (.one (r2.le0 l))) hn
    exact ⟨w3, _, l3, s3, zipD_get e1 e2, r3⟩
def zipXF (h : Hd) : List D → Option Src
  | [.str s, .tup ys] => some ⟨zipD (signs s) ys, fun _ => True⟩
  | ds => zipF h ds
theorem PI.or {X : Cx} {tg e : Expr} {t u : TI} (h : PI X tg e t) (g : PI X tg e u) : PI X tg e (fun σ H R => t σ H R ∨ u σ H R) := ⟨fun pins s σ H R I q => q.elim (h.run pins s σ H R I) (g.run pins s σ H R I)⟩
section
variable {X : Cx} {W : WX} {tg e e2 : Expr} {mas : MA} {p pos tpos : Pos}
theorem i_zipX {elts : List Expr} {kk : Nat} (hm : X.mg "zip" = none) (ha : SA X W [e, e2] mas) (hg : Gl X "zip" := by rfl)
    (hs : starEach [e, e2] X.env = (false, eval e X.env) :: starEach [e2] X.env := by rfl) (hpl : (backTo pos (starEach [e2] X.env)).any (·.1) = false := by rfl) : SI X W (.Tuple elts kk tpos) (.Call (.Name "zip" p) [e, e2] [] pos) (mSrc zipXF mas) := PI.imp (PI.or (i_zip hm ha hg hs hpl) (pi_zipS hg hm ha hs hpl)) fun σ H R q => by
  obtain ⟨w, ρ, h, er, sr, pq⟩ := q
  by_cases hc : ∃ s ys h1, mas ρ h = .ok [.str s, .tup ys] h1
  · refine .inr ?_
    obtain ⟨s, ys, h1, em⟩ := hc
    have pq' : Post (fun w _ s J => SrcOk (Cx.ct X) w s J) (Cx.ct X) w W σ ((mas ρ h).bind fun ds h => optR (zipXF h ds) h) R := pq
    rw [em] at pq'
    refine ⟨w, ρ, h, er, sr, ?_⟩
    rw [em]
    intro vs w1 H1 l r1 s1
    obtain ⟨v, u, rfl, r, r'⟩ := r1.two_inv
    simp only [VR] at r r'
    subst r
    obtain ⟨b, us, rfl, qb, ry⟩ := r'
    have p2 := Post.le l pq'
    exact ⟨s, b, us, rfl, SqT_le s1.F qb, p2 _ w1 H1 (.refl _) (srcZS qb ry) s1⟩
  · refine .inl ⟨w, ρ, h, er, sr, ?_⟩
    have e : mSrc zipXF mas ρ h = mSrc zipF mas ρ h := by
      unfold mSrc
      cases em : mas ρ h with
      | ok ds h1 =>
        show optR (zipXF h1 ds) h1 = optR (zipF h1 ds) h1
        unfold zipXF
        split
        · exact absurd ⟨_, _, _, em⟩ hc
        · rfl
      | _ => rfl
    rw [← e]
    exact pq
end
end DD
set_option Elab.async false
set_option linter.all false
set_option maxRecDepth 100000
set_option maxHeartbeats 4000000
namespace DD
open PySem PySem.Spec L2 RZ
/-! ## running the newer combinators by simp -/
section
variable {h : Hd} {ρ : Env} {x y : D} {mo ma mb mk mx mv : ME} {mas mks : MA} {mp : MP}
def get1K2 (x : D) : Res D → Res D
  | .ok y h => optR ((dgetF h x y).map (·.getD .non)) h
  | .exc x h => .exc x h
  | .bad => .bad
def get1K (mk : ME) (ρ : Env) : Res D → Res D
  | .ok x h => if isDct h x then get1K2 x (mk ρ h) else .bad
  | .exc x h => .exc x h
  | .bad => .bad
@[simp] theorem get1K2_ok (x y : D) (h : Hd) : get1K2 x (.ok y h) = optR ((dgetF h x y).map (·.getD .non)) h := rfl
@[simp] theorem get1K_ok (x : D) (h : Hd) : get1K mk ρ (.ok x h) = if isDct h x then get1K2 x (mk ρ h) else .bad := rfl
@[simp] theorem mGet1_k (ma mk : ME) (ρ : Env) (h : Hd) : mGet1 ma mk ρ h = get1K mk ρ (ma ρ h) := by
  unfold mGet1 get1K
  cases ma ρ h with
  | ok d h =>
    simp only [Res.bind_ok]
    cases isDct h d with
    | false => rfl
    | true => simp only [if_true]; unfold get1K2; cases mk ρ h <;> rfl
  | _ => rfl
def get2K3 (x y : D) : Res D → Res D
  | .ok z h => optR ((dgetF h x y).map (·.getD z)) h
  | .exc x h => .exc x h
  | .bad => .bad
def get2K2 (mx : ME) (ρ : Env) (x : D) : Res D → Res D
  | .ok y h => get2K3 x y (mx ρ h)
  | .exc x h => .exc x h
  | .bad => .bad
def get2K (mk mx : ME) (ρ : Env) : Res D → Res D
  | .ok x h => if isDct h x then get2K2 mx ρ x (mk ρ h) else .bad
  | .exc x h => .exc x h
  | .bad => .bad
@[simp] theorem get2K3_ok (x y z : D) (h : Hd) : get2K3 x y (.ok z h) = optR ((dgetF h x y).map (·.getD z)) h := rfl
@[simp] theorem get2K2_ok (x y : D) (h : Hd) : get2K2 mx ρ x (.ok y h) = get2K3 x y (mx ρ h) := rfl
@[simp] theorem get2K_ok (x : D) (h : Hd) : get2K mk mx ρ (.ok x h) = if isDct h x then get2K2 mx ρ x (mk ρ h) else .bad := rfl
@[simp] theorem mGet2_k (ma mk mx : ME) (ρ : Env) (h : Hd) : mGet2 ma mk mx ρ h = get2K mk mx ρ (ma ρ h) := by
  unfold mGet2 get2K
  cases ma ρ h with
  | ok d h =>
    simp only [Res.bind_ok]
    cases isDct h d with
    | false => rfl
    | true =>
      simp only [if_true]; unfold get2K2
      cases mk ρ h with
      | ok y h => simp only [Res.bind_ok]; unfold get2K3; cases mx ρ h <;> rfl
      | _ => rfl
  | _ => rfl
def dixK2 (x : D) : Res D → Res D
  | .ok y h => optR ((dgetF h x y).bind id) h
  | .exc x h => .exc x h
  | .bad => .bad
def dixK (mk : ME) (ρ : Env) : Res D → Res D
  | .ok x h => dixK2 x (mk ρ h)
  | .exc x h => .exc x h
  | .bad => .bad
@[simp] theorem dixK2_ok (x y : D) (h : Hd) : dixK2 x (.ok y h) = optR ((dgetF h x y).bind id) h := rfl
@[simp] theorem dixK_ok (x : D) (h : Hd) : dixK mk ρ (.ok x h) = dixK2 x (mk ρ h) := rfl
@[simp] theorem mDIx_k (ma mk : ME) (ρ : Env) (h : Hd) : mDIx ma mk ρ h = dixK mk ρ (ma ρ h) := by
  unfold mDIx dixK
  cases ma ρ h with
  | ok d h => simp only [Res.bind_ok]; unfold dixK2; cases mk ρ h <;> rfl
  | _ => rfl
/-! the module's own dicts -/
def kixK (kvs : List (Str × D)) : Res D → Res D
  | .ok (.str z) h => optR (kvs.lookup z) h
  | .exc x h => .exc x h
  | _ => .bad
@[simp] theorem kixK_ok (kvs : List (Str × D)) (z : Str) (h : Hd) : kixK kvs (.ok (.str z) h) = optR (kvs.lookup z) h := rfl
@[simp] theorem mKIx_k (n : Str) (kvs : List (Str × D)) (mk : ME) (ρ : Env) (h : Hd) : mKIx n kvs mk ρ h = kixK kvs (mk ρ h) := by
  unfold mKIx kixK
  cases mk ρ h with
  | ok d h => cases d <;> simp [kixF]
  | _ => rfl
def kgetK (kvs : List (Str × D)) : Res D → Res D
  | .ok (.str z) h => .ok ((kvs.lookup z).getD .non) h
  | .exc x h => .exc x h
  | _ => .bad
@[simp] theorem kgetK_ok (kvs : List (Str × D)) (z : Str) (h : Hd) : kgetK kvs (.ok (.str z) h) = .ok ((kvs.lookup z).getD .non) h := rfl
@[simp] theorem mKGet_k (n : Str) (kvs : List (Str × D)) (mk : ME) (ρ : Env) (h : Hd) : mKGet n kvs mk ρ h = kgetK kvs (mk ρ h) := by
  unfold mKGet kgetK
  cases mk ρ h with
  | ok d h => cases d <;> rfl
  | _ => rfl
def kinK (kvs : List (Str × D)) : Res D → Res Bool
  | .ok (.str z) h => .ok (kvs.lookup z).isSome h
  | .exc x h => .exc x h
  | _ => .bad
@[simp] theorem kinK_ok (kvs : List (Str × D)) (z : Str) (h : Hd) : kinK kvs (.ok (.str z) h) = .ok (kvs.lookup z).isSome h := rfl
@[simp] theorem mKIn_k (kvs : List (Str × D)) (mk : ME) (ρ : Env) (h : Hd) : mKIn kvs mk ρ h = kinK kvs (mk ρ h) := by
  unfold mKIn kinK
  cases mk ρ h with
  | ok d h => cases d <;> rfl
  | _ => rfl
/-! displays -/
def pK3 (k v : D) : Res (List (D × D)) → Res (List (D × D))
  | .ok ps h => .ok ((k, v) :: ps) h
  | .exc x h => .exc x h
  | .bad => .bad
def pK2 (r : MP) (ρ : Env) (k : D) : Res D → Res (List (D × D))
  | .ok v h => pK3 k v (r ρ h)
  | .exc x h => .exc x h
  | .bad => .bad
def pK1 (mv : ME) (r : MP) (ρ : Env) : Res D → Res (List (D × D))
  | .ok k h => pK2 r ρ k (mv ρ h)
  | .exc x h => .exc x h
  | .bad => .bad
@[simp] theorem pK3_ok (k v : D) (ps : List (D × D)) (h : Hd) : pK3 k v (.ok ps h) = .ok ((k, v) :: ps) h := rfl
@[simp] theorem pK2_ok (r : MP) (k v : D) (h : Hd) : pK2 r ρ k (.ok v h) = pK3 k v (r ρ h) := rfl
@[simp] theorem pK1_ok (r : MP) (k : D) (h : Hd) : pK1 mv r ρ (.ok k h) = pK2 r ρ k (mv ρ h) := rfl
@[simp] theorem pNil_k (ρ : Env) (h : Hd) : pNil ρ h = .ok [] h := rfl
@[simp] theorem pCons_k (mk mv : ME) (r : MP) (ρ : Env) (h : Hd) : pCons mk mv r ρ h = pK1 mv r ρ (mk ρ h) := by
  unfold pCons pK1
  cases mk ρ h with
  | ok k h =>
    simp only [Res.bind_ok]; unfold pK2
    cases mv ρ h with
    | ok v h => simp only [Res.bind_ok]; unfold pK3; cases r ρ h <;> rfl
    | _ => rfl
  | _ => rfl
def dispK : Res (List (D × D)) → Res O
  | .ok ps h => dispF ps h
  | .exc x h => .exc x h
  | .bad => .bad
@[simp] theorem dispK_ok (ps : List (D × D)) (h : Hd) : dispK (.ok ps h) = dispF ps h := rfl
@[simp] theorem mDisp_k (mp : MP) (ρ : Env) (h : Hd) : mDisp mp ρ h = dispK (mp ρ h) := by unfold mDisp dispK; cases mp ρ h <;> rfl
/-! methods, calls -/
def methK2 (f : D → List D → Hd → Res O) (x : D) : Res (List D) → Res O
  | .ok ds h => f x ds h
  | .exc x h => .exc x h
  | .bad => .bad
def methK (ty : Hd → D → Bool) (f : D → List D → Hd → Res O) (mas : MA) (ρ : Env) : Res D → Res O
  | .ok x h => if ty h x then methK2 f x (mas ρ h) else .bad
  | .exc x h => .exc x h
  | .bad => .bad
@[simp] theorem methK2_ok (f : D → List D → Hd → Res O) (x : D) (ds : List D) (h : Hd) : methK2 f x (.ok ds h) = f x ds h := rfl
@[simp] theorem methK_ok (ty : Hd → D → Bool) (f : D → List D → Hd → Res O) (x : D) (h : Hd) : methK ty f mas ρ (.ok x h) = if ty h x then methK2 f x (mas ρ h) else .bad := rfl
@[simp] theorem mMeth_k (ty : Hd → D → Bool) (f : D → List D → Hd → Res O) (mo : ME) (mas : MA) (ρ : Env) (h : Hd) : mMeth ty f mo mas ρ h = methK ty f mas ρ (mo ρ h) := by
  unfold mMeth methK
  cases mo ρ h with
  | ok x h =>
    simp only [Res.bind_ok]
    cases ty h x with
    | false => rfl
    | true => simp only [if_true]; unfold methK2; cases mas ρ h <;> rfl
  | _ => rfl
def callDK (n : Nat) (m : List D → Hd → Res D) (dvs : List D) : Res (List D) → Res D
  | .ok ds h => if ds.length = n then m (ds ++ dvs) h else .bad
  | .exc x h => .exc x h
  | .bad => .bad
@[simp] theorem callDK_ok (n : Nat) (m : List D → Hd → Res D) (dvs ds : List D) (h : Hd) : callDK n m dvs (.ok ds h) = if ds.length = n then m (ds ++ dvs) h else .bad := rfl
@[simp] theorem mCallD_k (n : Nat) (m : List D → Hd → Res D) (dvs : List D) (ma : MA) (ρ : Env) (h : Hd) : mCallD n m dvs ma ρ h = callDK n m dvs (ma ρ h) := by unfold mCallD callDK; cases ma ρ h <;> rfl
def callKK2 (n j : Nat) (m : List D → Hd → Res D) (ds : List D) : Res (List D) → Res D
  | .ok es h => if ds.length = n ∧ es.length = j then m (ds ++ es) h else .bad
  | .exc x h => .exc x h
  | .bad => .bad
def callKK (n j : Nat) (m : List D → Hd → Res D) (mk : MA) (ρ : Env) : Res (List D) → Res D
  | .ok ds h => callKK2 n j m ds (mk ρ h)
  | .exc x h => .exc x h
  | .bad => .bad
@[simp] theorem callKK2_ok (n j : Nat) (m : List D → Hd → Res D) (ds es : List D) (h : Hd) : callKK2 n j m ds (.ok es h) = if ds.length = n ∧ es.length = j then m (ds ++ es) h else .bad := rfl
@[simp] theorem callKK_ok (n j : Nat) (m : List D → Hd → Res D) (ds : List D) (h : Hd) : callKK n j m mks ρ (.ok ds h) = callKK2 n j m ds (mks ρ h) := rfl
@[simp] theorem mCallK_k (n j : Nat) (m : List D → Hd → Res D) (ma mk : MA) (ρ : Env) (h : Hd) : mCallK n j m ma mk ρ h = callKK n j m mk ρ (ma ρ h) := by
  unfold mCallK callKK
  cases ma ρ h with
  | ok ds h => simp only [Res.bind_ok]; unfold callKK2; cases mk ρ h <;> rfl
  | _ => rfl
/-! targets, tests, sources -/
@[simp] theorem gStarM_k (i : Nat) (gs : MGs) (xs : List D) (ρ : Env) (h : Hd) : gStarM i gs (.tup xs) ρ h = if i ≤ xs.length ∧ xs.length ≤ 16384 then gs (xs.take i ++ [.lst (xs.drop i)]) ρ h else .bad := rfl
@[simp] theorem zipXF_st (s : Str) (ys : List D) : zipXF h [.str s, .tup ys] = some ⟨zipD (signs s) ys, fun _ => True⟩ := rfl
@[simp] theorem zipXF_tt (xs ys : List D) : zipXF h [.tup xs, .tup ys] = some ⟨zipD xs ys, fun _ => True⟩ := rfl
@[simp] theorem zipXF_ll (xs ys : List D) : zipXF h [.lst xs, .lst ys] = some ⟨zipD xs ys, fun h => lstOf h (.lst xs) = some xs ∧ lstOf h (.lst ys) = some ys⟩ := rfl
theorem cInX_flat {x : D} {ys : List D} (hx : flatD x = true) (hy : ys.all flatD = true) : cInX x (.tup ys) h = .ok (inFlat x ys) h := by
  have e : inF h x (.tup ys) = some (inFlat x ys) := by
    have g : inSeq h x (.tup ys) = some (inFlat x ys) := by
      unfold inSeq
      simp only [seqOf_tup, Option.bind_some]
      rw [if_pos (by rw [hx, hy]; rfl)]
    cases x <;> exact g
  unfold cInX
  rw [e]
end
end DD
set_option Elab.async false
set_option linter.all false
set_option maxRecDepth 100000
set_option maxHeartbeats 4000000
namespace DD
open PySem PySem.Spec L2 RZ
/-! ## comprehensions: a counted invariant, a test -/
theorem lcGo_invN {chk : Hd → Prop} {g : MG} {t : MT} {e : ME} {ρ : Env} (I : Nat → Hd → Prop) (Pr : D → Prop) (hc : ∀ n h, I n h → chk h) : ∀ (ds acc : List D) (h : Hd),
    (∀ d ∈ ds, ∀ n h, I (n + 1) h → ∃ ρ1 y h', g d ρ h = .ok ρ1 h ∧ t ρ1 h = .ok true h ∧ e ρ1 h = .ok y h' ∧ I n h' ∧ Pr y) → I ds.length h → acc.length + ds.length ≤ sizeLine →
    ∃ ys h', lcGo chk g t e ρ ds acc h = .ok (acc ++ ys) h' ∧ ys.length = ds.length ∧ (∀ y ∈ ys, Pr y) ∧ I 0 h'
  | [], acc, h, _, i, _ => ⟨[], h, by unfold lcGo; rw [if_pos (hc _ h i), List.append_nil], rfl, by simp, i⟩
  | d :: ds, acc, h, he, i, hz => by
    obtain ⟨ρ1, y, h1, a1, a2, a3, i1, py⟩ := he d (by simp) ds.length h (by simpa using i)
    have hz' : acc.length + ds.length + 1 ≤ sizeLine := by simpa [Nat.add_assoc] using hz
    obtain ⟨ys, h2, b1, b2, b3, b4⟩ := lcGo_invN I Pr hc ds (acc ++ [y]) h1 (fun d m => he d (List.mem_cons_of_mem _ m)) i1 (by simp; omega)
    refine ⟨y :: ys, h2, ?_, by simp [b2], ?_, b4⟩
    · unfold lcGo
      rw [if_pos (hc _ h i), noX_ok a1]
      simp only [Res.bind_ok]
      rw [noX_ok a2]
      simp only [Res.bind_ok, if_true]
      rw [noX_ok a3]
      simp only [Res.bind_ok]
      rw [if_pos (by omega), b1]
      simp
    · intro z m
      rcases List.mem_cons.mp m with rfl | m
      · exact py
      · exact b3 z m
theorem lcGo_invB {chk : Hd → Prop} {g : MG} {t : MT} {e : ME} {ρ : Env} (I : Hd → Prop) (Pr : D → Prop) (hc : ∀ h, I h → chk h) : ∀ (ds acc : List D) (h : Hd),
    (∀ d ∈ ds, ∀ h, I h → ∃ ρ1 b h1, g d ρ h = .ok ρ1 h ∧ t ρ1 h = .ok b h1 ∧ I h1 ∧ (b = true → ∃ y h', e ρ1 h1 = .ok y h' ∧ I h' ∧ Pr y)) → I h → acc.length + ds.length ≤ sizeLine →
    ∃ ys h', lcGo chk g t e ρ ds acc h = .ok (acc ++ ys) h' ∧ ys.length ≤ ds.length ∧ (∀ y ∈ ys, Pr y) ∧ I h'
  | [], acc, h, _, i, _ => ⟨[], h, by unfold lcGo; rw [if_pos (hc h i), List.append_nil], Nat.le_refl _, by simp, i⟩
  | d :: ds, acc, h, he, i, hz => by
    obtain ⟨ρ1, b, h1, a1, a2, i1, q⟩ := he d (by simp) h i
    have hz' : acc.length + ds.length + 1 ≤ sizeLine := by simpa [Nat.add_assoc] using hz
    cases b with
    | false =>
      obtain ⟨ys, h2, b1, b2, b3, b4⟩ := lcGo_invB I Pr hc ds acc h1 (fun d m => he d (List.mem_cons_of_mem _ m)) i1 (by omega)
      refine ⟨ys, h2, ?_, by simp; omega, b3, b4⟩
      unfold lcGo
      rw [if_pos (hc h i), noX_ok a1]
      simp only [Res.bind_ok]
      rw [noX_ok a2]
      simp only [Res.bind_ok, Bool.false_eq_true, if_false]
      exact b1
    | true =>
      obtain ⟨y, h3, a3, i3, py⟩ := q rfl
      obtain ⟨ys, h2, b1, b2, b3, b4⟩ := lcGo_invB I Pr hc ds (acc ++ [y]) h3 (fun d m => he d (List.mem_cons_of_mem _ m)) i3 (by simp; omega)
      refine ⟨y :: ys, h2, ?_, by simp; omega, ?_, b4⟩
      · unfold lcGo
        rw [if_pos (hc h i), noX_ok a1]
        simp only [Res.bind_ok]
        rw [noX_ok a2]
        simp only [Res.bind_ok, if_true]
        rw [noX_ok a3]
        simp only [Res.bind_ok]
        rw [if_pos (by omega), b1]
        simp
      · intro z m
        rcases List.mem_cons.mp m with rfl | m
        · exact py
        · exact b3 z m
/-- a for statement under a counted invariant -/
theorem forGo_invN {chk : Hd → Prop} {g : MG} {b : MS} (I : Nat → Env → Hd → Prop) (hc : ∀ n ρ h, I n ρ h → chk h) : ∀ (ds : List D) (ρ : Env) (h : Hd),
    (∀ d ∈ ds, ∀ n ρ h, I (n + 1) ρ h → ∃ ρ1 ρ2 h', g d ρ h = .ok ρ1 h ∧ b ρ1 h = .nx ρ2 h' ∧ I n ρ2 h') → I ds.length ρ h → ∃ ρ' h', forGo chk g b ds ρ h = .nx ρ' h' ∧ I 0 ρ' h'
  | [], ρ, h, _, i => ⟨ρ, h, by unfold forGo; rw [if_pos (hc _ ρ h i)], i⟩
  | d :: ds, ρ, h, hb, i => by
    obtain ⟨ρ1, ρ2, h1, a1, a2, i1⟩ := hb d (by simp) ds.length ρ h (by simpa using i)
    obtain ⟨ρ3, h3, b1, b2⟩ := forGo_invN I hc ds ρ2 h1 (fun d m => hb d (List.mem_cons_of_mem _ m)) i1
    refine ⟨ρ3, h3, ?_, b2⟩
    unfold forGo
    rw [if_pos (hc _ ρ h i)]
    simp only [a1, a2, afterB]
    exact b1
theorem keysI_map : ∀ xs : List Int, keysI (xs.map .int) = some xs
  | [] => rfl
  | x :: xs => by simp [keysI, keysI_map xs]
theorem ssF_ints {h : Hd} {d : D} {xs : List Int} (e : seqOf h d = some (xs.map .int)) (hz : xs.length ≤ 1000) : ssF d h = .ok (.new (.lst ((sd ltI xs).map .int))) h := by
  unfold ssF
  rw [e]
  simp only []
  rw [if_pos (by rw [List.length_map]; have : 1001 < scanBound := by decide +kernel
                 omega), keysI_map]
theorem ints_of {p : Int → Prop} : ∀ ys : List D, (∀ y ∈ ys, ∃ s, y = .int s ∧ p s) → ∃ ss : List Int, ys = ss.map .int ∧ ∀ s ∈ ss, p s
  | [], _ => ⟨[], rfl, by simp⟩
  | y :: ys, h => by
    obtain ⟨s, rfl, hs⟩ := h y (by simp)
    obtain ⟨ss, rfl, q⟩ := ints_of ys fun y m => h y (List.mem_cons_of_mem _ m)
    exact ⟨s :: ss, rfl, fun z m => by
      rcases List.mem_cons.mp m with rfl | m
      · exact hs
      · exact q z m⟩
/-! ## pure data of bounded depth -/
def okS (n : Nat) (s : Str) : Bool := decide (s.length ≤ n) && PyData.strOk s
def pd (n : Nat) : Nat → D → Prop
  | _, .non => True
  | _, .bl _ => True
  | _, .int _ => True
  | _, .str s => okS n s = true
  | k + 1, .tup xs => xs.length ≤ n ∧ ∀ d ∈ xs, pd n k d
  | k + 1, .lst xs => xs.length ≤ n ∧ ∀ d ∈ xs, pd n k d
  | _, _ => False
section
variable {n k : Nat}
@[simp] theorem pd_non : pd n k .non := by cases k <;> trivial
@[simp] theorem pd_bl (b : Bool) : pd n k (.bl b) := by cases k <;> trivial
@[simp] theorem pd_int (i : Int) : pd n k (.int i) := by cases k <;> trivial
@[simp] theorem pd_str (s : Str) : pd n k (.str s) ↔ okS n s = true := by cases k <;> exact Iff.rfl
@[simp] theorem pd_tup (xs : List D) : pd n (k + 1) (.tup xs) ↔ xs.length ≤ n ∧ ∀ d ∈ xs, pd n k d := Iff.rfl
@[simp] theorem pd_lst (xs : List D) : pd n (k + 1) (.lst xs) ↔ xs.length ≤ n ∧ ∀ d ∈ xs, pd n k d := Iff.rfl
theorem okS_le {m : Nat} {s : Str} (h : okS n s = true) (l : n ≤ m) : okS m s = true := by
  simp only [okS, Bool.and_eq_true, decide_eq_true_eq] at h ⊢
  exact ⟨by omega, h.2⟩
theorem pd_mono {m : Nat} (l : n ≤ m) : ∀ {k j : Nat} {d : D}, k ≤ j → pd n k d → pd m j d
  | k, j, .non, _, _ => by simp
  | k, j, .bl _, _, _ => by simp
  | k, j, .int _, _, _ => by simp
  | k, j, .str s, _, h => by rw [pd_str] at h ⊢; exact okS_le h l
  | k + 1, j + 1, .tup xs, hk, h => by
    rw [pd_tup] at h ⊢
    exact ⟨by omega, fun d m => pd_mono l (by omega) (h.2 d m)⟩
  | k + 1, j + 1, .lst xs, hk, h => by
    rw [pd_lst] at h ⊢
    exact ⟨by omega, fun d m => pd_mono l (by omega) (h.2 d m)⟩
  | 0, _, .tup _, _, h => by simp [pd] at h
  | 0, _, .lst _, _, h => by simp [pd] at h
  | k, _, .rol _, _, h => by cases k <;> simp [pd] at h
  | k, _, .dct _ _, _, h => by cases k <;> simp [pd] at h
  | k, _, .dtt _ _, _, h => by cases k <;> simp [pd] at h
  | k, _, .ktp _, _, h => by cases k <;> simp [pd] at h
  | k, _, .ins _ _ _, _, h => by cases k <;> simp [pd] at h
  | k, _, .ref _, _, h => by cases k <;> simp [pd] at h
  | k, _, .glb _, _, h => by cases k <;> simp [pd] at h
  | k, _, .ty _, _, h => by cases k <;> simp [pd] at h
end
@[simp] theorem sl9 : (9 ≤ sizeLine) = True := by simp [sizeLine_eq]
@[simp] theorem sl10 : (10 ≤ sizeLine) = True := by simp [sizeLine_eq]
@[simp] theorem sl11 : (11 ≤ sizeLine) = True := by simp [sizeLine_eq]
@[simp] theorem sl12 : (12 ≤ sizeLine) = True := by simp [sizeLine_eq]
@[simp] theorem sl13 : (13 ≤ sizeLine) = True := by simp [sizeLine_eq]
@[simp] theorem sl14 : (14 ≤ sizeLine) = True := by simp [sizeLine_eq]
@[simp] theorem sl15 : (15 ≤ sizeLine) = True := by simp [sizeLine_eq]
@[simp] theorem sl16 : (16 ≤ sizeLine) = True := by simp [sizeLine_eq]
@[simp] theorem sl17 : (17 ≤ sizeLine) = True := by simp [sizeLine_eq]
@[simp] theorem sl18 : (18 ≤ sizeLine) = True := by simp [sizeLine_eq]
@[simp] theorem sl19 : (19 ≤ sizeLine) = True := by simp [sizeLine_eq]
@[simp] theorem sl20 : (20 ≤ sizeLine) = True := by simp [sizeLine_eq]
@[simp] theorem sl21 : (21 ≤ sizeLine) = True := by simp [sizeLine_eq]
@[simp] theorem sl22 : (22 ≤ sizeLine) = True := by simp [sizeLine_eq]
@[simp] theorem sl23 : (23 ≤ sizeLine) = True := by simp [sizeLine_eq]
@[simp] theorem sl24 : (24 ≤ sizeLine) = True := by simp [sizeLine_eq]
@[simp] theorem sl25 : (25 ≤ sizeLine) = True := by simp [sizeLine_eq]
@[simp] theorem sl26 : (26 ≤ sizeLine) = True := by simp [sizeLine_eq]
@[simp] theorem sl27 : (27 ≤ sizeLine) = True := by simp [sizeLine_eq]
@[simp] theorem sl28 : (28 ≤ sizeLine) = True := by simp [sizeLine_eq]
@[simp] theorem sl29 : (29 ≤ sizeLine) = True := by simp [sizeLine_eq]
@[simp] theorem sl30 : (30 ≤ sizeLine) = True := by simp [sizeLine_eq]
/-! ## d[k] = v -/
section
variable {ρ : Env} {mo mk mv : ME}
def dputK4 (ρ : Env) : Option Hd → Fl
  | some h => .nx ρ h
  | none => .bad
def dputK3 (ρ : Env) (v x : D) : Res D → Fl
  | .ok y h => dputK4 ρ (dputF x y v h)
  | .exc x h => .exc x ρ h
  | .bad => .bad
def dputK2 (mk : ME) (ρ : Env) (v : D) : Res D → Fl
  | .ok x h => dputK3 ρ v x (mk ρ h)
  | .exc x h => .exc x ρ h
  | .bad => .bad
def dputK (mo mk : ME) (ρ : Env) : Res D → Fl
  | .ok v h => dputK2 mk ρ v (mo ρ h)
  | .exc x h => .exc x ρ h
  | .bad => .bad
@[simp] theorem dputK4_some (h : Hd) : dputK4 ρ (some h) = .nx ρ h := rfl
@[simp] theorem dputK3_ok (v x y : D) (h : Hd) : dputK3 ρ v x (.ok y h) = dputK4 ρ (dputF x y v h) := rfl
@[simp] theorem dputK2_ok (v x : D) (h : Hd) : dputK2 mk ρ v (.ok x h) = dputK3 ρ v x (mk ρ h) := rfl
@[simp] theorem dputK_ok (v : D) (h : Hd) : dputK mo mk ρ (.ok v h) = dputK2 mk ρ v (mo ρ h) := rfl
@[simp] theorem mDPut_k (mo mk mv : ME) (ρ : Env) (h : Hd) : mDPut mo mk mv ρ h = dputK mo mk ρ (mv ρ h) := by
  unfold mDPut liftR dputK
  dsimp only
  cases mv ρ h with
  | ok v h =>
    simp only [Res.bind_ok]; unfold dputK2
    cases mo ρ h with
    | ok x h =>
      simp only [Res.bind_ok]; unfold dputK3
      cases mk ρ h with
      | ok y h =>
        simp only [Res.bind_ok]; unfold dputK4
        cases dputF x y v h <;> rfl
      | _ => rfl
    | _ => rfl
  | _ => rfl
end
/-! ## cuts -/
theorem cutL_from {α : Type} (xs : List α) (n : Nat) : cutL xs (some (n : Int)) none = xs.drop n := by
  unfold cutL
  rw [HT.sIx_nat, HT.sIx_none]
  by_cases h : n ≤ xs.length
  · rw [Nat.min_eq_left h, List.take_of_length_le (by simp)]
  · rw [Nat.min_eq_right (by omega), List.take_of_length_le (by simp), List.drop_of_length_le (Nat.le_refl _), List.drop_of_length_le (by omega)]
theorem cutL_to {α : Type} (xs : List α) (n : Nat) : cutL xs none (some (n : Int)) = xs.take n := by
  unfold cutL
  rw [HT.sIx_nat, HT.sIx_none, Nat.sub_zero, List.drop_zero]
  by_cases h : n ≤ xs.length
  · rw [Nat.min_eq_left h]
  · rw [Nat.min_eq_right (by omega), List.take_of_length_le (Nat.le_refl _), List.take_of_length_le (by omega)]
theorem cutL_mid {α : Type} (xs : List α) (n m : Nat) : cutL xs (some (n : Int)) (some (m : Int)) = (xs.drop n).take (m - n) := by
  unfold cutL
  rw [HT.sIx_nat, HT.sIx_nat]
  by_cases h : n ≤ xs.length
  · rw [Nat.min_eq_left h]
    by_cases h2 : m ≤ xs.length
    · rw [Nat.min_eq_left h2]
    · rw [Nat.min_eq_right (by omega), List.take_of_length_le (by simp), List.take_of_length_le (by simp; omega)]
  · rw [Nat.min_eq_right (show xs.length ≤ n by omega), List.drop_of_length_le (Nat.le_refl _), List.drop_of_length_le (show xs.length ≤ n by omega), List.take_nil, List.take_nil]
end DD
set_option Elab.async false
set_option linter.all false
set_option maxRecDepth 100000
set_option maxHeartbeats 4000000
namespace DD
open PySem PySem.Spec L2 RZ
/-! ## literals -/
theorem ofS_inj {a b : String} : (Str.ofString a = Str.ofString b) ↔ a = b := by
  constructor
  · intro h
    rw [Str.ofString_eq_toList, Str.ofString_eq_toList] at h
    have h2 : (a.toList.map Char.toNat) = (b.toList.map Char.toNat) := by
      have := congrArg (fun s : Str => s.cps.toList) h
      simpa using this
    have h3 : a.toList = b.toList := by
      generalize a.toList = x at h2
      generalize b.toList = y at h2
      induction x generalizing y with
      | nil => cases y with
        | nil => rfl
        | cons c r => simp at h2
      | cons c r ih => cases y with
        | nil => simp at h2
        | cons d s =>
          simp only [List.map_cons, List.cons.injEq] at h2
          rw [ih s h2.2, Char.ext (UInt32.toNat_inj.mp h2.1)]
    exact String.toList_inj.mp h3
  · intro h; rw [h]
theorem ofS_beq {a b : String} : (Str.ofString a == Str.ofString b) = (a == b) := by
  rw [Bool.eq_iff_iff, beq_iff_eq, beq_iff_eq, ofS_inj]
section
variable {h : Hd} {ρ : Env}
def splitK2 (x : D) : Res D → Res O
  | .ok y h => splF x [y] h
  | .exc x h => .exc x h
  | .bad => .bad
def splitK (ma : ME) (ρ : Env) : Res D → Res O
  | .ok x h => if isStr h x then splitK2 x (ma ρ h) else .bad
  | .exc x h => .exc x h
  | .bad => .bad
@[simp] theorem splitK2_ok (x y : D) (h : Hd) : splitK2 x (.ok y h) = splF x [y] h := rfl
@[simp] theorem splitK_ok (ma : ME) (x : D) (h : Hd) : splitK ma ρ (.ok x h) = if isStr h x then splitK2 x (ma ρ h) else .bad := rfl
@[simp] theorem mSplit_k (mo ma : ME) (ρ : Env) (h : Hd) : mSplit mo ma ρ h = splitK ma ρ (mo ρ h) := by
  unfold mSplit splitK
  cases mo ρ h with
  | ok x h =>
    simp only [Res.bind_ok]
    split
    · unfold splitK2; cases ma ρ h <;> rfl
    · rfl
  | _ => rfl
/-! ## lists of numbers -/
theorem isPys_ints : ∀ xs : List Int, isPys (xs.map .int) = true
  | [] => rfl
  | x :: xs => by simp [isPys, isPy, isPys_ints xs]
theorem pyDs_ints : ∀ xs : List Int, pyDs (xs.map .int) = xs.map .int
  | [] => rfl
  | x :: xs => by simp [pyDs, pyD, pyDs_ints xs]
theorem lay_ints : ∀ xs : List Int, PyData.canLayAll0 (xs.map .int) = true
  | [] => rfl
  | x :: xs => by simp [PyData.canLayAll0, PyData.canLay0, lay_ints xs]
theorem depth_ints : ∀ xs : List Int, PyData.depthAll (xs.map .int) = 0
  | [] => rfl
  | x :: xs => by simp [PyData.depthAll, PyData.depth, depth_ints xs]
theorem eqv_ints : ∀ xs ys : List Int, PyData.eqvAll (xs.map .int) (ys.map .int) = decide (xs = ys)
  | [], [] => rfl
  | [], _ :: _ => rfl
  | _ :: _, [] => rfl
  | x :: xs, y :: ys => by
    simp only [List.map_cons, PyData.eqvAll, PyData.eqv, eqv_ints xs ys]
    by_cases a : x = y <;> by_cases b : xs = ys <;> simp [a, b]
theorem cEq_ints (xs ys : List Int) : cEq (.lst (xs.map .int)) (.lst (ys.map .int)) h = .ok (decide (xs = ys)) h := by
  have hd : pyO h (.lst (xs.map .int)) = some (.list (xs.map .int)) := by simp [pyO, isPy, isPys_ints, pyD, pyDs_ints]
  have he : pyO h (.lst (ys.map .int)) = some (.list (ys.map .int)) := by simp [pyO, isPy, isPys_ints, pyD, pyDs_ints]
  have e : eqF h (.lst (xs.map .int)) (.lst (ys.map .int)) = some (decide (xs = ys)) := by
    unfold eqF
    rw [show scalV (.lst (xs.map .int)) = none from rfl]
    simp only [eqF.deepE, hd, he, Option.bind_some, PyData.canLay0, lay_ints, PyData.depth, depth_ints, PyData.eqv, eqv_ints]
    rfl
  unfold cEq
  rw [e]
  rfl
theorem rise_adjG {α : Type} {lt : α → α → Bool} (o : Ord lt) : ∀ ss : List α, (ss.zip (ss.drop 1)).all (fun p => lt p.1 p.2) = true ↔ Rise lt ss
  | [] => by simp
  | [x] => by simp
  | x :: y :: r => by
    have ih := rise_adjG o (y :: r)
    simp only [List.drop_succ_cons, List.drop_zero] at ih ⊢
    rw [List.zip_cons_cons, List.all_cons, Bool.and_eq_true, ih]
    show _ ↔ List.Pairwise _ (x :: y :: r)
    rw [List.pairwise_cons (a := x)]
    constructor
    · rintro ⟨a, b⟩
      refine ⟨fun z m => ?_, b⟩
      rcases List.mem_cons.mp m with rfl | m
      · exact a
      · exact o.tr _ _ _ a ((List.pairwise_cons.mp b).1 z m)
    · rintro ⟨a, b⟩
      exact ⟨a y (by simp), b⟩
theorem adj_sdI (ss : List Int) : (ss.zip (ss.drop 1)).all (fun p => decide (p.1 < p.2)) = decide (ss = sd ltI ss) := by
  rw [Bool.eq_iff_iff, show (fun p : Int × Int => decide (p.1 < p.2)) = fun p => ltI p.1 p.2 from rfl, rise_adjG ordI, decide_eq_true_iff]
  constructor
  · intro h
    exact rise_ext ordI h (sd_rise ordI ss) fun a => (sd_mem ordI).symm
  · intro h
    rw [h]
    exact sd_rise ordI ss
/-! ## in -/
theorem eqF_of {d e : D} {b : Bool} (q : cEq d e h = .ok b h) : eqF h d e = some b := by
  unfold cEq at q
  cases x : eqF h d e with
  | none => rw [x] at q; cases q
  | some c => rw [x] at q; cases q; rfl
theorem cNe_of {d e : D} {b : Bool} (q : cEq d e h = .ok b h) : cNe d e h = .ok (!b) h := by
  unfold cNe
  rw [eqF_of q]
  rfl
theorem cNotInX_lst {x : D} {ys : List D} (hx : flatD x = true) (hy : ys.all flatD = true) : cNotInX x (.lst ys) h = .ok (!inFlat x ys) h := by
  have e : inF h x (.lst ys) = some (inFlat x ys) := by
    have g : inSeq h x (.lst ys) = some (inFlat x ys) := by
      unfold inSeq
      simp only [seqOf_lst, Option.bind_some]
      rw [if_pos (by rw [hx, hy]; rfl)]
    cases x <;> exact g
  unfold cNotInX
  rw [e]
theorem inFlat_strs (x : Str) : ∀ ss : List Str, inFlat (.str x) (ss.map .str) = decide (x ∈ ss)
  | [] => rfl
  | s :: ss => by
    have ih := inFlat_strs x ss
    unfold inFlat at ih ⊢
    rw [List.map_cons, List.any_cons, ih]
    rw [Bool.eq_iff_iff]
    simp only [eqFlat, Bool.or_eq_true, beq_iff_eq, decide_eq_true_eq, List.mem_cons]
    constructor
    · rintro (h | h)
      · exact .inl h.symm
      · exact .inr h
    · rintro (h | h)
      · exact .inl h.symm
      · exact .inr h
theorem strs_flat : ∀ ss : List Str, (ss.map D.str).all flatD = true
  | [] => rfl
  | s :: ss => by simp [flatD]
theorem cInX_strs (x : Str) (ss : List Str) : cInX (.str x) (.tup (ss.map .str)) h = .ok (decide (x ∈ ss)) h := by
  rw [cInX_flat rfl (strs_flat ss), inFlat_strs]
theorem cInX_s2 (x a b : Str) : cInX (.str x) (.tup [.str a, .str b]) h = .ok (decide (x = a ∨ x = b)) h := by
  have := cInX_strs (h := h) x [a, b]
  simpa using this
theorem cInX_s3 (x a b c : Str) : cInX (.str x) (.tup [.str a, .str b, .str c]) h = .ok (decide (x = a ∨ x = b ∨ x = c)) h := by
  have := cInX_strs (h := h) x [a, b, c]
  simpa using this
theorem cInX_s4 (x a b c d : Str) : cInX (.str x) (.tup [.str a, .str b, .str c, .str d]) h = .ok (decide (x = a ∨ x = b ∨ x = c ∨ x = d)) h := by
  have := cInX_strs (h := h) x [a, b, c, d]
  simpa using this
end
theorem lookup_mem {kvs : List (Str × D)} {f : Str} {v : D} (e : kvs.lookup f = some v) : (f, v) ∈ kvs := by
  induction kvs with
  | nil => cases e
  | cons q r ih =>
    rw [List.lookup_cons] at e
    split at e
    · rename_i hq
      have h1 : f = q.1 := by simpa using hq
      have h2 : q.2 = v := Option.some.inj e
      rw [h1, ← h2]
      simp
    · exact List.mem_cons_of_mem _ (ih e)
theorem len1 {α : Type} {ys : List α} (h : ys.length = 1) : ∃ a, ys = [a] := List.length_eq_one_iff.mp h
theorem len2 {α : Type} {ys : List α} (h : ys.length = 2) : ∃ a b, ys = [a, b] := by
  rcases ys with _ | ⟨a, _ | ⟨b, _ | ⟨c, r⟩⟩⟩
  · cases h
  · cases h
  · exact ⟨a, b, rfl⟩
  · simp at h
theorem len3 {α : Type} {ys : List α} (h : ys.length = 3) : ∃ a b c, ys = [a, b, c] := by
  rcases ys with _ | ⟨a, _ | ⟨b, _ | ⟨c, _ | ⟨d, r⟩⟩⟩⟩
  · cases h
  · cases h
  · cases h
  · exact ⟨a, b, c, rfl⟩
  · simp at h
end DD
set_option Elab.async false
set_option linter.all false
set_option maxRecDepth 100000
set_option maxHeartbeats 4000000
/-! sorted({e for x in xs if t}) with whole numbers or texts -/
namespace DD
open PySem PySem.Spec PyProof.Rows L2 RZ
section
variable {P : Program} {w : World} {A : Around} {E : Value → Shared → Prop} {s : Shared} {a : Addr} {S : Key → Bool} {n : Nat}
theorem callM_add {k : Key} {v : Value} {Q : Value → Shared → Prop} (hk : keyIs k v = true) (R : SetM w s.heap a S n) (room : n + 1 < scanBound)
    (hQ : ∀ h', Heap.SameBut a s.heap h' → SetM w h' a (fun j => S j || decide (j = k)) (if S k = true then n else n + 1) → Q .none { s with heap := h', toks := s.toks + 1 }) :
    wpAny (model P w) A (call (.builtin "set.add") [.ref a, v]) Q E s := by
  have hT : s.TypeIs (.ref a) "set" := by
    obtain ⟨o, es, ep, t, ⟨q1, q2, q3⟩, r⟩ := R
    exact ⟨o, q1, q2.1⟩
  have hkey : (mixKind P w).is k v = true := hk
  refine wpAny_call_entry F.slot_set_add hT F.entry_set_add ?_ (F.args_set_add_2 _ _)
  unfold Builtin.«set.add» Builtin.Frozenset.oneOther
  simp only [List.isEmpty_nil, bind_assoc]
  unfold Builtin.Frozenset.addrOf setAdd
  refine wpAny_bind (wpAny_pure ?_)
  try dsimp only
  refine wpAny_bind (wpAny_pure ?_)
  try dsimp only
  refine wpAny_bind (wpAny_holding (wpAny_bind ((mixKind P w).pyHash hkey ?_)))
  refine setM_add (s := { s with toks := s.toks + 1 }) hk R room fun h' sb R' => ?_
  show wpAny _ _ (ret Value.none) _ _ _
  exact wpAny_pure ⟨_, rfl, hQ h' sb R'⟩
end
def SetMO (w : World) (a : Addr) (S : Key → Bool) (n : Nat) : HO := .ext fun h => SetM w h a S n
theorem setMO_ok {w : World} {P : Program} {H : Hp} {h : Heap} {a : Addr} {S : Key → Bool} {n : Nat} (R : SetM w h a S n) : ObjOk P w H h a (SetMO w a S n) := by
  obtain ⟨o, _, _, _, ⟨ho, _⟩, _⟩ := id R
  exact ⟨R, ⟨o, ho⟩, fun h1 h2 p k => SetM.at p k⟩
section
variable {X : Cx} {pins : List (Addr × Obj)} {σ : L2.St} {H : Hp} {s : Shared}
theorem setMO_at {a : Addr} {S : Key → Bool} {n : Nat} (I : Inv X pins σ H s) (e : H a = some (SetMO X.w a S n)) : SetM X.w s.heap a S n := (I.hok a _ e).1
theorem addMO {D : Addr} {k : Key} {v : Value} {S : Key → Bool} {n : Nat} {E : Value → Shared → Prop} {Q : Value → Shared → Prop} (I : Inv X pins σ H s) (hk : keyIs k v = true) (e : H D = some (SetMO X.w D S n)) (room : n + 1 < scanBound)
    (q : ∀ s', Inv X pins σ (upd H D (SetMO X.w D (fun j => S j || decide (j = k)) (if S k = true then n else n + 1))) s' → Q .none s') : wpAny (model X.prog X.w) X.A (call (.builtin "set.add") [.ref D, v]) Q E s :=
  callM_add hk (setMO_at I e) room fun h' sb R => by
    have there : ∃ u, h'.get? D = some u := by
      obtain ⟨o, _, _, _, ⟨ho, _⟩, _⟩ := id R
      exact ⟨o, ho⟩
    exact q _ (I.write (e := D) (t' := s.toks + 1) (by rw [e]; trivial) (.inl rfl) (fun b u hb hu => (sb.2 b hb).trans hu) there (setMO_ok R))
end
/-- what is asked of {e for x in xs if t}: the new set at Z -/
def tSm (w : World) (wi : TI) (g : TG) (tt : TT) (te : TE) (vs : List Nat) : TE := fun σ H Q => wi σ H fun J H1 => ∀ Z, H1 Z = none →
  ∃ V : Nat → Nat → Hp → Prop, (∃ m, V 0 m (upd H1 Z (SetMO w Z (fun _ => false) 0))) ∧ ∀ i m H, V i m H → (J.stop i H ∧ Q (.ref Z) H) ∨
    (J.go i H ∧ ∃ Nx : Hp → Prop, (∀ H', Nx H' → ∃ m', m' < m ∧ V (i + 1) m' H') ∧ ∀ x H', J.yld i H x H' → g x (wipe σ vs) H' fun σ2 H2 => wipe σ2 vs = wipe σ vs ∧
      tt σ2 H2 fun b H3 => if b = true then te σ2 H3 fun y H4 => ∃ (k : Key) (S : Key → Bool) (n : Nat), y = kV k ∧ H4 Z = some (SetMO w Z S n) ∧ n + 1 < scanBound ∧
        Nx (upd H4 Z (SetMO w Z (fun j => S j || decide (j = k)) (if S k = true then n else n + 1))) else Nx H3)
theorem kV_key {k : Key} {u : Value} (r : RelV (kV k) u) : keyIs k u = true := by
  cases k with
  | inl i => obtain ⟨t, rfl⟩ := r; exact keyIs_int i t
  | inr x => obtain ⟨t, rfl⟩ := r; exact keyIs_str x t
section
variable {X : Cx}
theorem pe_sm {elt tg iter : Expr} {ifs : List Expr} {scope : Scope} {own : List (PySem.Str × Nat)} {pos : Pos} {wi : TI} {g : TG} {tt : TT} {te : TE} (calm : X.calm = true) (nd : X.N.Nodup) (hi : PI X tg iter wi) (ok : BlkOk X.N X.env.scope scope own)
    (hg : ∀ (s : Shared) (H : Hp) (C : Addr) (cl : List (PySem.Str × Addr)) (fp : List Addr), PG (X.blk s H scope (compEnvC scope cl C X.env) fp) tg g)
    (ht : ∀ (s : Shared) (H : Hp) (C : Addr) (cl : List (PySem.Str × Addr)) (fp : List Addr), PTs (X.blk s H scope (compEnvC scope cl C X.env) fp) ifs tt)
    (he : ∀ (s : Shared) (H : Hp) (C : Addr) (cl : List (PySem.Str × Addr)) (fp : List Addr), PE (X.blk s H scope (compEnvC scope cl C X.env) fp) elt te) (hs : ∀ x, foldedSetIterable iter X.env x = pure x := by intro _; rfl) :
    PE X (.SetComp elt [⟨tg, iter, ifs, 0⟩] scope pos) (tSm X.w wi g tt te (own.map (·.2))) := by
  refine ⟨fun pins s σ H Q I h => ?_⟩
  rw [PpSet.eval_SetComp]
  have frees : ∀ y ∈ scope.names, y.2 = .free → ∃ c, X.env.cells.lookup y.1 = some c := fun y hy e =>
    (ok.free y hy e).elim (fun k => I.ok.has _ (.inl k)) (fun k => I.ok.has _ (.inr k))
  refine wpAny_comprehension_free (use := none) rfl hs (closure_ok frees) ok.kind (fun y hy e => by rw [ok.uniq y hy, e]) (thn (hi.run pins s σ H _ I h) fun xv s1 h1 => thn h1 fun itv s2 h2 => ?_)
  obtain ⟨it, fp, tn, J, H2, rfl, I2, T, st2, f2, q⟩ := h2
  refine PpSet.newSet_ok (newEnv_comp ?_)
  generalize eZ : s2.heap.objs.size = Z
  have freshZ : H2 Z = none := I2.hok.fresh (Nat.le_of_eq eZ)
  obtain ⟨V, ⟨m0, v0⟩, turn⟩ := q Z freshZ
  generalize e3 : ({ s2 with heap := s2.heap.push { cls := .type "set", dict := none, data := .set #[] 0 (.fresh 0 0 (!X.w.params.followText "set-order")) } } : Shared) = s3
  have hp3 : s3.heap = s2.heap.push { cls := .type "set", dict := none, data := .set #[] 0 (.fresh 0 0 (!X.w.params.followText "set-order")) } := by rw [← e3]
  have I3 : Inv X pins σ (upd H2 Z (SetMO X.w Z (fun _ => false) 0)) s3 := by
    rw [← e3]
    refine I2.laid (t' := s2.toks) (fun b o e => Heap.get?_push_of_some _ e) (Nat.le_of_eq eZ) ?_
    rw [← eZ]
    exact setMO_ok ((SetM.new (ns := []) (Heap.get?_push_size _ rfl)).congr fun k => rfl)
  have f3 : ∀ b ∈ fp, FpOk X pins (upd H2 Z (SetMO X.w Z (fun _ => false) 0)) b ∧ b < s3.heap.objs.size := fun b hb => by
    obtain ⟨o, e, _⟩ := T.obj _ _ st2 b hb
    have lt := Heap.lt_size e
    exact ⟨⟨by rw [upd_ne (by rw [← eZ]; exact Nat.ne_of_lt lt)]; exact (f2 b hb).1, (f2 b hb).2⟩, by rw [hp3, Heap.size_push]; exact Nat.lt_succ_of_lt lt⟩
  have st3 : tn 0 s3.heap := T.keep _ _ _ st2 fun b _ o e => by rw [hp3]; exact Heap.get?_push_of_some _ e
  have I4 := block_start I3 ok nd f3
  have pg := hg s3 (upd H2 Z (SetMO X.w Z (fun _ => false) 0)) s3.heap.objs.size (cellsFrom (s3.heap.objs.size + 1) scope.names (cloFrom X.env.cells scope.names [])) fp
  have pt := ht s3 (upd H2 Z (SetMO X.w Z (fun _ => false) 0)) s3.heap.objs.size (cellsFrom (s3.heap.objs.size + 1) scope.names (cloFrom X.env.cells scope.names [])) fp
  have pe := he s3 (upd H2 Z (SetMO X.w Z (fun _ => false) 0)) s3.heap.objs.size (cellsFrom (s3.heap.objs.size + 1) scope.names (cloFrom X.env.cells scope.names [])) fp
  show codeAny _ _ (.compStart (.SetComp elt [⟨tg, iter, ifs, 0⟩] scope pos) 0 (.ref it) (.ref Z) (compEnvC scope (cellsFrom (s3.heap.objs.size + 1) scope.names (cloFrom X.env.cells scope.names [])) s3.heap.objs.size X.env))
    (compPost (model X.prog X.w) X.A X.xe none (EP X pins σ Q) (.ref Z) s3.heap.objs.size) { s3 with heap := pushCells (s3.heap.push { cls := .type "dict", data := .dict #[] }) scope.names }
  have nof : ∀ b ∈ fp, (upd H2 Z (SetMO X.w Z (fun _ => false) 0)) b = none := fun b hb => (f3 b hb).1.1
  generalize hce : compEnvC scope (cellsFrom (s3.heap.objs.size + 1) scope.names (cloFrom X.env.cells scope.names [])) s3.heap.objs.size X.env = ce at I4 pg pt pe ⊢
  have locs : ce.locals = s3.heap.objs.size := by subst hce; rfl
  generalize hH3 : upd H2 Z (SetMO X.w Z (fun _ => false) 0) = H3 at I3 I4 pg pt pe v0 nof f3
  generalize e4 : ({ s3 with heap := pushCells (s3.heap.push { cls := .type "dict", data := .dict #[] }) scope.names } : Shared) = s4 at I4 ⊢
  have st4 : tn 0 s4.heap := T.keep _ _ _ st3 fun b _ o e => by rw [← e4]; exact pushCells_keeps _ _ _ _ (Heap.get?_push_of_some _ e)
  have still : ∀ {σ' : L2.St} {H' : Hp} {s' : Shared}, Inv (X.blk s3 H3 scope ce fp) [] σ' H' s' → (∀ b ∈ fp, H' b = none) → ∀ b ∈ fp, FpOk (X.blk s3 H3 scope ce fp) [] H' b := fun I' no b hb =>
    ⟨no b hb, (I'.ok.exf b hb).1, I'.ok.exfs b hb, .inl hb, fun x c e => (I'.ok.exf b hb).2 x c e, fun p hp => by simp at hp⟩
  have loop : codeAny (model X.prog X.w) X.A (.compLoop (.SetComp elt [⟨tg, iter, ifs, 0⟩] scope pos) 0 (.ref it) (.ref Z) ce) (compPost (model X.prog X.w) X.A X.xe none (EP X pins σ Q) (.ref Z) s3.heap.objs.size) s4 := by
    refine PpSet.compLoopS_any (fun n s' => ∃ i H', Inv (X.blk s3 H3 scope ce fp) [] (wipe σ (own.map (·.2))) H' s' ∧ tn i s'.heap ∧ (∀ b ∈ fp, H' b = none) ∧ V i n H') ?_ m0 ⟨0, H3, I4, st4, nof, v0⟩
    rintro n s5 ⟨i, H5, I5, st5, n5, v5⟩
    rcases turn i n H5 v5 with ⟨stop, fin⟩ | ⟨go, Nx, hNx, step⟩
    · refine thnF (T.done (X.blk s3 H3 scope ce fp) rfl rfl rfl calm i [] s5 _ H5 (fun _ _ => False) I5 (still I5 n5) st5 stop) fun r s6 ⟨hr, I6⟩ => ?_
      subst hr
      have I7 : Inv X pins σ H5 s6 := I3.call' (ch := fp) I6.os I6.base I6.hok I6.bare fun b hb => ⟨(f3 b hb).1.2.2.2.1, (f3 b hb).1.2.1, (f3 b hb).1.2.2.2.2.1, (f3 b hb).1.2.2.2.2.2⟩
      have nC : H5 s3.heap.objs.size = none := by
        have z : H5 ce.locals = none := I6.free
        rwa [locs] at z
      obtain ⟨m, hn, _⟩ := I6.loc
      have hn : s6.heap.Ns ce.locals m := hn
      rw [locs] at hn
      obtain ⟨g0, g1, g2, g3, g4, g5⟩ := I3.fpOk (Nat.le_refl _) nC
      exact ⟨m, hn, fun h2 sb => ⟨.ref Z, H5, I7.turned (t' := s6.toks) (fun b o hb e => (sb.2 b hb).trans e) g0 g1 g3 g4 g5, rfl, fin⟩⟩
    · refine thnF (T.item (X.blk s3 H3 scope ce fp) rfl rfl rfl calm i [] s5 _ H5 (fun _ _ => False) I5 (still I5 n5) st5 go) fun r s6 ⟨u, hr, h6⟩ => ?_
      subst hr
      refine thnF h6 fun _ s7 ⟨x, H7, I7, r7, y7, st7, n7⟩ => ?_
      refine thnF (pg.run _ s7 _ H7 x u _ (I7.pinned (still I7 n7) (T.obj _ _ st7)) r7 (step x H7 y7)) fun _ s8 ⟨σ8, H8, I8, w8, q8⟩ => ?_
      refine thnF (pt.run _ s8 σ8 H8 _ I8 q8) fun b s9 ⟨H9, I9, q9⟩ => ?_
      have on : ∀ {s' : Shared} {H' : Hp}, Inv (X.blk s3 H3 scope ce fp) ([] ++ pinsAt fp s7.heap) σ8 H' s' → Nx H' → ∃ m, m < n ∧ ∃ i H', Inv (X.blk s3 H3 scope ce fp) [] (wipe σ (own.map (·.2))) H' s' ∧ tn i s'.heap ∧ (∀ b ∈ fp, H' b = none) ∧ V i m H' := fun {s' H'} I' nx => by
        obtain ⟨m', lt, v'⟩ := hNx H' nx
        have kept : ∀ b ∈ fp, ∀ o, s7.heap.get? b = some o → s'.heap.get? b = some o ∧ H' b = none := fun b hb o e =>
          have z := I'.pin (b, o) (List.mem_append_right _ (List.mem_append_right _ (mem_pinsAt hb e)))
          ⟨z.1, z.2.1⟩
        refine ⟨m', lt, i + 1, H', (I'.unpinned (pins := [])).weak (by rw [← w8, wipe_length]) (fun j v e => (wipe_some (w8 ▸ e)).1), T.keep _ _ _ st7 fun b hb o e => (kept b hb o e).1, fun b hb => ?_, v'⟩
        obtain ⟨o, e, _⟩ := T.obj _ _ st7 b hb
        exact (kept b hb o e).2
      cases b with
      | false =>
        simp only [Bool.false_eq_true, if_false] at q9 ⊢
        exact on I9 q9
      | true =>
        simp only [if_true] at q9 ⊢
        refine thnF (pe.run _ s9 σ8 H9 _ I9 q9) fun z s10 ⟨yv, H10, I10, r10, k, S, n0, ey, eD, room, nx⟩ => ?_
        subst ey
        exact addMO (X := X.blk s3 H3 scope ce fp) I10 (kV_key r10) eD room fun s11 I11 => on I11 nx
  exact PpSet.codeAny_compStart_set loop (T.self X.A 0 _ _ _ st4 loop)
end
end DD
set_option Elab.async false
set_option linter.all false
set_option maxRecDepth 100000
set_option maxHeartbeats 4000000
namespace DD
open PySem PySem.Spec L2 RZ
/-- a heap of code objects alone -/
def codeHeap (q : Str) (n : Nat) : Heap := ⟨(List.replicate n (⟨.none, none, .fields #[.none, .str q (default : Tok)], #[]⟩ : Obj)).toArray, {}⟩
theorem codeHeap_get {q : Str} {n : Nat} {a : Addr} (h : a < n) : (codeHeap q n).get? a = some ⟨.none, none, .fields #[.none, .str q (default : Tok)], #[]⟩ := by
  unfold codeHeap Heap.get?
  simp [h]
theorem codeHeap_any {q : Str} {n : Nat} {a : Addr} {o : Obj} (h : (codeHeap q n).get? a = some o) : o.data = .fields #[.none, .str q (default : Tok)] := by
  by_cases hn : a < n
  · rw [codeHeap_get hn] at h; cases h; rfl
  · unfold codeHeap Heap.get? at h
    simp [hn] at h
theorem plain_set {w : World} {a : Addr} {S : Key → Bool} {n : Nat} : plainO (SetMO w a S n) := by
  refine ⟨fun ps z => (by unfold SetMO at z; cases z), fun b q z => ?_⟩
  unfold SetMO LamX.CodeO at z
  have e := congrFun (HO.ext.inj z) (codeHeap q (b + 1))
  have yes : ∃ (oc : Obj) (vs : Array Value) (t : Tok), (codeHeap q (b + 1)).get? b = some oc ∧ oc.data = .fields vs ∧ vs[1]? = some (.str q t) := ⟨_, _, _, codeHeap_get (Nat.lt_succ_self _), rfl, rfl⟩
  rw [← e] at yes
  obtain ⟨o, es, ep, t, ⟨q1, q2, q3⟩, _⟩ := yes
  rw [codeHeap_any q1] at q3
  cases q3
/-- behind sorted(set): what the set holds, sorted -/
def tSSm (K : PySem.W.Frag) (w : World) (ta : TE) : TE := fun σ H Q => ta σ H fun x H1 => ∃ (Z : Addr) (ks : List Key) (c : Nat), x = .ref Z ∧ H1 Z = some (SetMO w Z (kIn ks) c) ∧ c ≤ ks.length ∧ ks.length + 1 < scanBound ∧
  ((∃ ns : List Int, ks = ns.map Sum.inl ∧ ∀ p, H1 p = none → Q (.ref p) (upd H1 p (.lst ((sd ltI ns).map V.int)))) ∨ (∃ ss : List Str, ks = ss.map Sum.inr ∧ ∀ p, H1 p = none → Q (.ref p) (upd H1 p (.lst ((sd ltS ss).map V.str)))))
theorem pin_set {w : World} {a : Addr} {S : Key → Bool} {n : Nat} : pinO (SetMO w a S n) := ⟨plain_set, fun xs z => by unfold SetMO at z; cases z⟩
theorem pe_sortedSm {X : Cx} {a : Expr} {ta : TE} {p pos : Pos} (hg : Gl X "sorted") (hm : X.mg "sorted" = none) (ha : PE X a ta) (hc : X.calm = true)
    (na : starEach [a] X.env = (false, eval a X.env) :: starEach [] X.env := by rfl) : PE X (.Call (.Name "sorted" p) [a] [] pos) (tSSm X.K X.w ta) := by
  refine ⟨fun pins s σ H Q I h => ?_⟩
  refine PyProof.Rows.Call_ (ld_blt I hg hm PyProof.Rows.boot_sorted ?_)
  refine PyProof.Rows.callWith_builtin1 (PyProof.Rows.args_cons (thn (ha.run pins s σ H _ I h) fun v s1 ⟨x, H1, I1, r1, q1⟩ => PyProof.Rows.args_nil ?_) na) na rfl
  obtain ⟨Z, ks, c, rfl, hZ, hc', hb, q1⟩ := q1
  cases r1
  have R := setMO_at I1 hZ
  have hz : c ≤ sizeLine := by rw [sizeLine_eq]; unfold scanBound at hb; omega
  have lay : ∀ (s' : Shared) (p : Addr) (out : Array Value) (n : Nat) (vs : List V), (∀ b o, s1.heap.get? b = some o → s'.heap.get? b = some o) → s'.gens = s1.gens → s'.os = s1.os → s1.heap.objs.size ≤ p →
      s'.heap.get? p = some (PyProof.Rows.seqObj "list" out n) → Vals vs out.toList → vs.length ≤ sizeLine → (∀ p, H1 p = none → Q (.ref p) (upd H1 p (.lst vs))) → EP X pins σ Q (.ref p) s' := fun s' p out n vs k1 k2 k3 k4 k5 k6 k7 k8 => by
    have hn : H1 p = none := I1.hok.fresh k4
    refine ⟨.ref p, upd H1 p (.lst vs), I1.call' (ch := []) k3 (Un.laid k1 k4 hn) (I1.hok.laid k1 k4 ⟨k7, out.toList, n, k6, by rw [Array.toArray_toList]; exact k5⟩) (by rw [k2]; exact I1.bare) (fun _ z => by cases z), rfl, k8 p hn⟩
  rcases q1 with ⟨ns, rfl, q1⟩ | ⟨ss, rfl, q1⟩
  · refine sortedM_int R (I1.ok.hd hc) (fun x => kIn_map_inl) fun s' p out n ns' k1 k2 k3 k4 k5 k6 k7 k8 k9 => ?_
    obtain rfl : ns' = sd ltI ns := rise_ext ordI (by simpa [Rise, ltI] using k7) (sd_rise ordI ns) fun a => by
      rw [k8, sd_mem ordI, kIn_iff, List.mem_map]
      exact ⟨fun ⟨x, h, e⟩ => Sum.inl.inj e ▸ h, fun h => ⟨a, h, rfl⟩⟩
    exact lay s' p out n _ k1 k2 k3 k4 k5 (vals_of_ints k6) (by rw [List.length_map, k9]; exact hz) q1
  · refine sortedM_str R (I1.ok.hd hc) (fun x => kIn_map_inr) fun s' p out n ns' k1 k2 k3 k4 k5 k6 k7 k8 k9 k10 => ?_
    obtain rfl : ns' = sd ltS ss := rise_ext ordS (sortedS_rise k7 k8) (sd_rise ordS ss) fun a => by
      rw [k9, sd_mem ordS, kIn_iff, List.mem_map]
      exact ⟨fun ⟨x, h, e⟩ => Sum.inr.inj e ▸ h, fun h => ⟨a, h, rfl⟩⟩
    exact lay s' p out n _ k1 k2 k3 k4 k5 (vals_of_strs k6) (by rw [List.length_map, k10]; exact hz) q1
/-- a key, or nothing -/
def mKey (e : ME) : ME := fun ρ h => (e ρ h).bind fun d h => if (keyD d).isSome then .ok d h else .bad
noncomputable def mSSC (vs : List Nat) (mi : MI) (g : MG) (t : MT) (e : ME) : Env → Hd → Res O := fun ρ h => (mi ρ h).bind fun s h => (lcGo s.chk g t (mKey e) (wipeD ρ vs) s.items [] h).bind fun ds h => ssF (.lst ds) h
theorem lcGo_len {chk : Hd → Prop} {g : MG} {t : MT} {e : ME} {ρ : Env} : ∀ (ds acc : List D) (h : Hd) (r : List D) (h' : Hd), lcGo chk g t e ρ ds acc h = .ok r h' → acc.length ≤ r.length
  | [], acc, h, r, h', q => by
    unfold lcGo at q
    split at q
    · cases q; exact Nat.le_refl _
    · cases q
  | d :: ds, acc, h, r, h', q => by
    unfold lcGo at q
    split at q
    · cases q1 : noX (g d) ρ h with
      | ok ρ1 h1 =>
        simp only [q1, Res.bind] at q
        cases q2 : noX t ρ1 h1 with
        | ok k h2 =>
          simp only [q2, Res.bind] at q
          cases k with
          | false => exact lcGo_len ds acc h2 r h' (by simpa using q)
          | true =>
            simp only [if_true] at q
            cases q3 : noX e ρ1 h2 with
            | ok y h3 =>
              simp only [q3, Res.bind] at q
              split at q
              · have := lcGo_len ds (acc ++ [y]) h3 r h' q
                simp at this
                omega
              · cases q
            | exc x h3 => simp [q3, Res.bind] at q
            | bad => simp [q3, Res.bind] at q
        | exc x h3 => simp [q2, Res.bind] at q
        | bad => simp [q2, Res.bind] at q
      | exc x h3 => simp [q1, Res.bind] at q
      | bad => simp [q1, Res.bind] at q
    · cases q
theorem keysD_append : ∀ {xs ys : List D} {k : List Key} {l : List Key}, keysD xs = some k → keysD ys = some l → keysD (xs ++ ys) = some (k ++ l)
  | [], ys, k, l, e, f => by simp only [keysD] at e; cases e; exact f
  | x :: xs, ys, k, l, e, f => by
    simp only [keysD] at e
    split at e
    · rename_i a b e1 e2
      cases e
      simp only [List.cons_append, keysD, e1, keysD_append e2 f]
    · cases e
theorem keysI_D : ∀ {xs : List D} {ns : List Int} {k : List Key}, keysI xs = some ns → keysD xs = some k → k = ns.map Sum.inl
  | [], ns, k, e, f => by simp only [keysI] at e; simp only [keysD] at f; cases e; cases f; rfl
  | x :: xs, ns, k, e, f => by
    cases x with
    | int i =>
      simp only [keysI, Option.map_eq_some_iff] at e
      obtain ⟨ns', e', rfl⟩ := e
      simp only [keysD, keyD] at f
      split at f
      · rename_i a b e1 e2
        cases e1; cases f
        rw [keysI_D e' e2]; rfl
      · cases f
    | _ => simp [keysI] at e
theorem keysS_D : ∀ {xs : List D} {ns : List Str} {k : List Key}, keysS xs = some ns → keysD xs = some k → k = ns.map Sum.inr
  | [], ns, k, e, f => by simp only [keysS] at e; simp only [keysD] at f; cases e; cases f; rfl
  | x :: xs, ns, k, e, f => by
    cases x with
    | str i =>
      simp only [keysS, Option.map_eq_some_iff] at e
      obtain ⟨ns', e', rfl⟩ := e
      simp only [keysD, keyD] at f
      split at f
      · rename_i a b e1 e2
        cases e1; cases f
        rw [keysS_D e' e2]; rfl
      · cases f
    | _ => simp [keysS] at e
theorem keysD_len : ∀ {xs : List D} {k : List Key}, keysD xs = some k → k.length = xs.length
  | [], k, e => by simp only [keysD] at e; cases e; rfl
  | x :: xs, k, e => by
    simp only [keysD] at e
    split at e
    · rename_i a b e1 e2
      cases e
      simp [keysD_len e2]
    · cases e
theorem kIn_app (ks : List Key) (k j : Key) : (kIn ks j || decide (j = k)) = kIn (ks ++ [k]) j := by
  unfold kIn
  rw [List.any_append]
  congr 1
  simp only [List.any_cons, List.any_nil, Bool.or_false]
  by_cases e : j = k
  · simp [e]
  · simp [e]; exact fun h => e h.symm
section
variable {X : Cx} {W : WX} {pos : Pos}
theorem sc_rd {ct : Ct} {wd : World} {vs : List Nat} {mi : MI} {g : MG} {t : MT} {e : ME} {ix : List Nat} (hix : ∀ i ∈ ix, i ∈ vs) {σ : L2.St} {H : Hp} {Q : VK} (q : tP (RO ct) ct W (mSSC vs mi g t e) σ H Q) :
    tSSm ct.K wd (tSm wd (tI ct W mi) (tG ct W0 ix g) (tT ct W0 t) (tE ct W0 e) vs) σ H Q := by
  refine (tP.bind q).mono fun J H1 ⟨w1, ρ, h1, s, e1, s1, k1, p1⟩ D hD => ?_
  obtain ⟨G, Y, wk, hG, hY⟩ := id k1
  have f0 := FreshAt.of s1 hD
  let o0 : HO := SetMO wd D (fun _ => false) 0
  have sD : SR ct (w1.pinAt D o0) h1 (upd H1 D o0) := (s1.laid hD _).pinned f0 upd_same pin_set
  have big : ∀ (ds acc : List DD.D) (h : Hd), ¬ acc.length + 1 < scanBound → Post (RO ct) ct w1 W σ ((lcGo s.chk g t (mKey e) (wipeD ρ vs) ds acc h).bind fun ds h => ssF (.lst ds) h) Q → False := fun ds acc h hb p => by
    cases q : lcGo s.chk g t (mKey e) (wipeD ρ vs) ds acc h with
    | ok r h' =>
      rw [q] at p
      have := lcGo_len ds acc h r h' q
      simp only [Res.bind, ssF, seqOf_lst] at p
      rw [if_neg (by omega)] at p
      exact p
    | exc x h' => exact lcGo_nox _ _ _ _ _ _ _ _ _ _ q
    | bad => rw [q] at p; exact p
  -- the walk
  refine ⟨fun i m H' => m = s.items.length - i ∧ i ≤ s.items.length ∧ ∃ w h ks ds c, Le0 w1 w ∧ w.P = upd w1.P D (SetMO wd D (kIn ks) c) ∧ c ≤ ks.length ∧ SR ct w h H' ∧ keysD ds = some ks ∧
    Post (RO ct) ct w1 W σ ((lcGo s.chk g t (mKey e) (wipeD ρ vs) (s.items.drop i) ds h).bind fun ds h => ssF (.lst ds) h) Q,
    ⟨s.items.length, by simp, Nat.zero_le _, w1.pinAt D o0, h1, [], [], 0, ⟨fun _ _ q => q, fun _ _ q => q⟩, rfl, Nat.le_refl _, sD, rfl, p1⟩, ?_⟩
  rintro i m H' ⟨rfl, hle, w, h, ks, ds, c, l, eP, hc, sr, r, p⟩
  have ck : s.chk h := by
    by_cases ck : s.chk h
    · exact ck
    · exfalso
      cases q : s.items.drop i with
      | nil => rw [q] at p; simp only [lcGo, if_neg ck] at p; exact p
      | cons d ds => rw [q] at p; simp only [lcGo, if_neg ck] at p; exact p
  have g1 : G H' := hG w h H' l sr ck
  by_cases hi : i < s.items.length
  · refine .inr ⟨wk.goes i H' hi g1, fun H2 => ∃ w h ks ds c, Le0 w1 w ∧ w.P = upd w1.P D (SetMO wd D (kIn ks) c) ∧ c ≤ ks.length ∧ SR ct w h H2 ∧ keysD ds = some ks ∧
      Post (RO ct) ct w1 W σ ((lcGo s.chk g t (mKey e) (wipeD ρ vs) (s.items.drop (i + 1)) ds h).bind fun ds h => ssF (.lst ds) h) Q, fun H2 h2 => ⟨s.items.length - (i + 1), by omega, rfl, hi, h2⟩, fun x H'' yl => ?_⟩
    have y := wk.yields i H' x H'' hi g1 yl
    have hd : s.items.drop i = s.items[i] :: s.items.drop (i + 1) := List.drop_eq_getElem_cons hi
    rw [hd] at p
    simp only [lcGo] at p
    rw [if_pos ck] at p
    obtain ⟨w3, d, l3, sr3, ed, r3⟩ := hY i x H' H'' w h hi l sr ck y
    rw [List.getElem?_eq_getElem hi] at ed
    cases ed
    have e3 : ER ct w3 (wipeD ρ vs) (wipe σ vs) := ((e1.le0 l).le l3).wipe vs
    refine ⟨w3, wipeD ρ vs, h, s.items[i], e3, sr3, r3, ?_⟩
    cases q1 : g s.items[i] (wipeD ρ vs) h with
    | bad => simp only [noX, q1, Res.bind] at p; exact p.elim
    | exc x h1 => simp only [noX, q1, Res.bind] at p; exact p.elim
    | ok ρ1 h1 =>
      refine fun σ2 w4 H2 l4 e4 sr4 x4 => ⟨(x4.mono hix).wipe.trans ?_, w4, ρ1, h1, e4, sr4, ?_⟩
      · have : ∀ (vs : List Nat) (σ : L2.St), wipe (wipe σ vs) vs = wipe σ vs := fun vs σ => Eqx.wipe (σ := σ) (σ1 := wipe σ vs) ⟨wipe_length _ _, fun i h => wipe_out h⟩
        exact this vs σ
      · have pg : Post (RO ct) ct w1 W σ (((noX t ρ1 h1).bind fun k h2 => if k then ((noX (mKey e) ρ1 h2).bind fun y h3 => if ds.length < sizeLine then lcGo s.chk g t (mKey e) (wipeD ρ vs) (s.items.drop (i + 1)) (ds ++ [y]) h3 else .bad) else lcGo s.chk g t (mKey e) (wipeD ρ vs) (s.items.drop (i + 1)) ds h2).bind fun ds h => ssF (.lst ds) h) Q := by
          simpa only [noX, q1, Res.bind] using p
        cases q2 : t ρ1 h1 with
        | bad => simp only [noX, q2, Res.bind] at pg; exact pg.elim
        | exc x h1 => simp only [noX, q2, Res.bind] at pg; exact pg.elim
        | ok k h2 =>
          intro k' w5 H3 l5 ek sr5
          cases ek
          have eP5 : w5.P = upd w1.P D (SetMO wd D (kIn ks) c) := l5.P.trans (l4.P.trans (l3.P.trans eP))
          have l05 : Le0 w w5 := l3.toLe0.trans (l4.toLe0.trans l5.toLe0)
          have pt : Post (RO ct) ct w1 W σ ((if k = true then ((noX (mKey e) ρ1 h2).bind fun y h3 => if ds.length < sizeLine then lcGo s.chk g t (mKey e) (wipeD ρ vs) (s.items.drop (i + 1)) (ds ++ [y]) h3 else .bad) else lcGo s.chk g t (mKey e) (wipeD ρ vs) (s.items.drop (i + 1)) ds h2).bind fun ds h => ssF (.lst ds) h) Q := by
            simpa only [noX, q2, Res.bind] using pg
          cases k with
          | false => exact ⟨w5, h2, ks, ds, c, l.trans l05, eP5, hc, sr5, r, pt⟩
          | true =>
            refine ⟨w5, ρ1, h2, e4.le l5, sr5, ?_⟩
            simp only [if_true] at pt
            cases q3 : e ρ1 h2 with
            | bad => simp only [noX, mKey, q3, Res.bind] at pt; exact pt.elim
            | exc x h1 => simp only [noX, mKey, q3, Res.bind] at pt; exact pt.elim
            | ok y h3 =>
              intro v w6 H4 l6 r6 sr6
              cases qk : keyD y with
              | none => simp [noX, mKey, q3, Res.bind, qk] at pt; exact pt.elim
              | some k =>
                have pe : Post (RO ct) ct w1 W σ ((if ds.length < sizeLine then lcGo s.chk g t (mKey e) (wipeD ρ vs) (s.items.drop (i + 1)) (ds ++ [y]) h3 else .bad).bind fun ds h => ssF (.lst ds) h) Q := by
                  simpa [noX, mKey, q3, Res.bind, qk] using pt
                split at pe
                · have eP6 : w6.P = upd w1.P D (SetMO wd D (kIn ks) c) := l6.P.trans eP5
                  have l06 : Le0 w w6 := l05.trans l6.toLe0
                  have hDw : w6.P D = some (SetMO wd D (kIn ks) c) := by rw [eP6, upd_same]
                  have kl := keysD_len r
                  have room : ¬ ¬ (ds ++ [y]).length + 1 < scanBound := fun hb => big _ _ _ hb pe
                  have room' : (ds ++ [y]).length + 1 < scanBound := Classical.not_not.mp room
                  rw [List.length_append, List.length_singleton] at room'
                  have eo : SetMO wd D (fun j => kIn ks j || decide (j = k)) (if kIn ks k = true then c else c + 1) = SetMO wd D (kIn (ks ++ [k])) (if kIn ks k = true then c else c + 1) := by
                    congr 1
                    funext j
                    exact kIn_app ks k j
                  refine ⟨k, kIn ks, c, key_val r6 qk, sr6.P D _ hDw, by omega, ⟨w6.F, upd w6.P D (SetMO wd D (kIn (ks ++ [k])) (if kIn ks k = true then c else c + 1)), w6.φ⟩, h3, ks ++ [k], ds ++ [y], (if kIn ks k = true then c else c + 1),
                    ⟨fun a o q => l06.F a o (l.F a o q), fun a o q => l06.φ a o (l.φ a o q)⟩, ?_, ?_, ?_, keysD_append r (by simp [keysD, qk]), pe⟩
                  · show upd w6.P D _ = upd w1.P D _
                    rw [eP6, upd_upd]
                  · rw [List.length_append, List.length_singleton]; split <;> omega
                  · rw [eo]; exact sr6.repin hDw pin_set
                · exact pe.elim
  · obtain rfl : i = s.items.length := by omega
    refine .inl ⟨wk.stops H' g1, ?_⟩
    rw [List.drop_length] at p
    simp only [lcGo] at p
    rw [if_pos ck] at p
    have p' : Post (RO ct) ct w1 W σ (ssF (.lst ds) h) Q := p
    obtain ⟨sr', f', eD⟩ := sr.unpin eP f0.P
    unfold ssF at p'
    simp only [seqOf_lst] at p'
    split at p'
    · rename_i hb
      have kl := keysD_len r
      refine ⟨D, ks, c, rfl, eD, hc, by rw [kl]; exact hb, ?_⟩
      split at p'
      · rename_i ns en
        refine .inl ⟨ns, keysI_D en r, fun p hp => ?_⟩
        obtain ⟨s2, r2⟩ := new_obj (z := .lst ((sd ltI ns).map .int)) sr' hp (by intro z; cases z) ⟨_, upd_same, VRs_ints _⟩
        exact p' _ { w with P := w1.P } _ ⟨⟨l.F, l.φ⟩, rfl⟩ r2 s2
      · rename_i ss _ _
        refine .inr ⟨ss, keysS_D (by assumption) r, fun p hp => ?_⟩
        obtain ⟨s2, r2⟩ := new_obj (z := .lst ((sd ltS ss).map .str)) sr' hp (by intro z; cases z) ⟨_, upd_same, VRs_strs _⟩
        exact p' _ { w with P := w1.P } _ ⟨⟨l.F, l.φ⟩, rfl⟩ r2 s2
      · exact p'.elim
    · exact p'.elim
theorem e_ssc {elt tg iter : Expr} {ifs : List Expr} {scope : Scope} {own : List (Str × Nat)} {mi : MI} {g : MG} {t : MT} {e : ME} {ix vs : List Nat} {p : Pos} {cpos : Pos} (hm : X.mg "sorted" = none) (hc : X.calm = true) (hN : X.N.Nodup) (hi : SI X W tg iter mi) (ok : BlkOk X.N X.env.scope scope own)
    (hg : ∀ (s : Shared) (H : Hp) (C : Addr) (cl : List (Str × Addr)) (fp : List Addr), SG (X.blk s H scope (compEnvC scope cl C X.env) fp) W0 ix tg g) (ht : ∀ (s : Shared) (H : Hp) (C : Addr) (cl : List (Str × Addr)) (fp : List Addr), STs (X.blk s H scope (compEnvC scope cl C X.env) fp) W0 ifs t)
    (he : ∀ (s : Shared) (H : Hp) (C : Addr) (cl : List (Str × Addr)) (fp : List Addr), SE (X.blk s H scope (compEnvC scope cl C X.env) fp) W0 elt e) (hix : ∀ i ∈ ix, i ∈ own.map (·.2) := by decide) (hgs : Gl X "sorted" := by rfl) (hs : ∀ x, foldedSetIterable iter X.env x = pure x := by intro _; rfl) (hv : own.map (·.2) = vs := by rfl)
    (na : starEach [.SetComp elt [⟨tg, iter, ifs, 0⟩] scope pos] X.env = (false, eval (.SetComp elt [⟨tg, iter, ifs, 0⟩] scope pos) X.env) :: starEach [] X.env := by rfl) :
    SO X W (.Call (.Name "sorted" p) [.SetComp elt [⟨tg, iter, ifs, 0⟩] scope pos] [] cpos) (mSSC vs mi g t e) := by
  subst hv
  exact PE.imp (pe_sortedSm hgs hm (pe_sm (g := tG (Cx.ct X) W0 ix g) (tt := tT (Cx.ct X) W0 t) (te := tE (Cx.ct X) W0 e) hc hN hi ok hg ht he hs) hc na) fun σ H Q q => sc_rd (wd := X.w) hix q
end
section
variable {h : Hd} {ρ : Env}
def keyK : Res D → Res D
  | .ok (.str s) h => .ok (.str s) h
  | .ok (.int i) h => .ok (.int i) h
  | .exc x h => .exc x h
  | _ => .bad
@[simp] theorem keyK_str (s : Str) (h : Hd) : keyK (.ok (.str s) h) = .ok (.str s) h := rfl
@[simp] theorem keyK_int (s : Int) (h : Hd) : keyK (.ok (.int s) h) = .ok (.int s) h := rfl
@[simp] theorem mKey_k (e : ME) (ρ : Env) (h : Hd) : mKey e ρ h = keyK (e ρ h) := by
  unfold mKey keyK
  cases e ρ h with
  | ok d h => cases d <;> rfl
  | _ => rfl
def sscK2 : Res (List D) → Res O
  | .ok ds h => ssF (.lst ds) h
  | .exc x h => .exc x h
  | .bad => .bad
@[simp] theorem sscK2_ok (ds : List D) (h : Hd) : sscK2 (.ok ds h) = ssF (.lst ds) h := rfl
noncomputable def sscK (vs : List Nat) (g : MG) (t : MT) (e : ME) (ρ : Env) : Res Src → Res O
  | .ok s h => sscK2 (lcGo s.chk g t (mKey e) (wipeD ρ vs) s.items [] h)
  | .exc x h => .exc x h
  | .bad => .bad
@[simp] theorem sscK_ok (vs : List Nat) (g : MG) (t : MT) (e : ME) (ρ : Env) (s : Src) (h : Hd) : sscK vs g t e ρ (.ok s h) = sscK2 (lcGo s.chk g t (mKey e) (wipeD ρ vs) s.items [] h) := rfl
@[simp] theorem mSSC_k (vs : List Nat) (mi : MI) (g : MG) (t : MT) (e : ME) (ρ : Env) (h : Hd) : mSSC vs mi g t e ρ h = sscK vs g t e ρ (mi ρ h) := by
  unfold mSSC sscK
  cases mi ρ h with
  | ok s h => simp only [Res.bind_ok]; unfold sscK2; cases lcGo s.chk g t (mKey e) (wipeD ρ vs) s.items [] h <;> rfl
  | _ => rfl
end
end DD
set_option Elab.async false
set_option linter.all false
set_option maxRecDepth 100000
set_option maxHeartbeats 4000000
namespace DD
open PySem PySem.Spec L2 RZ
theorem at0 {α : Type} (a : α) (r : List α) : atI (a :: r) 0 = some a := by simp [atI, ixN]
theorem at1 {α : Type} (a b : α) (r : List α) : atI (a :: b :: r) 1 = some b := atI_at (j := 1) rfl rfl
theorem at2 {α : Type} (a b c : α) (r : List α) : atI (a :: b :: c :: r) 2 = some c := atI_at (j := 2) rfl rfl
theorem at3 {α : Type} (a b c d : α) (r : List α) : atI (a :: b :: c :: d :: r) 3 = some d := atI_at (j := 3) rfl rfl
theorem at4 {α : Type} (a b c d e : α) (r : List α) : atI (a :: b :: c :: d :: e :: r) 4 = some e := atI_at (j := 4) rfl rfl
@[simp] theorem eqStr {h : Hd} (a b : Str) : cEq (.str a) (.str b) h = .ok (decide (a = b)) h := by
  show optR (some (decide (V.str a = V.str b))) h = _
  simp
@[simp] theorem neStr {h : Hd} (a b : Str) : cNe (.str a) (.str b) h = .ok (!decide (a = b)) h := by
  show optR (some (!decide (V.str a = V.str b))) h = _
  simp
@[simp] theorem neInt {h : Hd} (i j : Int) : cNe (.int i) (.int j) h = .ok (!decide (i = j)) h := by
  show optR (some (!decide (V.int i = V.int j))) h = _
  simp
/-! ## pure data as Python's -/
mutual
theorem pd_py {n : Nat} : ∀ {k : Nat} {d : D}, pd n k d → isPy d = true ∧ (pyD d).canLay0 = true ∧ (pyD d).depth ≤ k
  | k, .non, _ => ⟨rfl, rfl, Nat.zero_le _⟩
  | k, .bl _, _ => ⟨rfl, rfl, Nat.zero_le _⟩
  | k, .int _, _ => ⟨rfl, rfl, Nat.zero_le _⟩
  | k, .str s, h => by
    rw [pd_str] at h
    simp only [okS, Bool.and_eq_true] at h
    exact ⟨rfl, h.2, Nat.zero_le _⟩
  | k + 1, .tup xs, h => by
    rw [pd_tup] at h
    have := pds_py (k := k) (ds := xs) h.2
    exact ⟨by simp only [isPy]; exact this.1, by simp only [pyD, PyData.canLay0]; exact this.2.1, by simp only [pyD, PyData.depth]; omega⟩
  | k + 1, .lst xs, h => by
    rw [pd_lst] at h
    have := pds_py (k := k) (ds := xs) h.2
    exact ⟨by simp only [isPy]; exact this.1, by simp only [pyD, PyData.canLay0]; exact this.2.1, by simp only [pyD, PyData.depth]; omega⟩
  | 0, .tup _, h => by simp [pd] at h
  | 0, .lst _, h => by simp [pd] at h
  | k, .rol _, h => by cases k <;> simp [pd] at h
  | k, .dct _ _, h => by cases k <;> simp [pd] at h
  | k, .dtt _ _, h => by cases k <;> simp [pd] at h
  | k, .ktp _, h => by cases k <;> simp [pd] at h
  | k, .ins _ _ _, h => by cases k <;> simp [pd] at h
  | k, .ref _, h => by cases k <;> simp [pd] at h
  | k, .glb _, h => by cases k <;> simp [pd] at h
  | k, .ty _, h => by cases k <;> simp [pd] at h
theorem pds_py {n : Nat} : ∀ {k : Nat} {ds : List D}, (∀ d ∈ ds, pd n k d) → isPys ds = true ∧ PyData.canLayAll0 (pyDs ds) = true ∧ PyData.depthAll (pyDs ds) ≤ k
  | k, [], _ => ⟨rfl, rfl, Nat.zero_le _⟩
  | k, d :: ds, h => by
    have a := pd_py (h d (by simp))
    have b := pds_py (k := k) (ds := ds) fun d m => h d (by simp [m])
    refine ⟨by simp only [isPys, a.1, b.1]; rfl, by simp only [pyDs, PyData.canLayAll0, a.2.1, b.2.1]; rfl, ?_⟩
    simp only [pyDs, PyData.depthAll]
    omega
end
theorem pd_pyO {n k : Nat} {d : D} {h : Hd} (p : pd n k d) : pyO h d = some (pyD d) := by
  have a := (pd_py p).1
  cases d with
  | ref r => cases k <;> simp [pd] at p
  | _ => simp only [pyO, a, if_true]
/-- a datum against a text -/
def isTx (s : Str) : D → Bool
  | .str t => decide (t = s)
  | _ => false
theorem eqTx {n k : Nat} {h : Hd} {d : D} {s : Str} (os : sOk s) (p : pd n k d) : cEq d (.str s) h = .ok (isTx s d) h := by
  have a := pd_py p
  have deep : scalV d = none → eqF h d (.str s) = some (PyData.eqv (pyD d) (.str s)) := fun hs => by
    have e2 : pyO h (.str s) = some (.str s) := rfl
    have g : eqF.deepE h d (.str s) = some (PyData.eqv (pyD d) (.str s)) := by
      unfold eqF.deepE
      rw [pd_pyO p, e2]
      simp only [Option.bind_some]
      have c2 : min (pyD d).depth (PyData.str s).depth ≤ 64 := Nat.le_trans (Nat.min_le_right _ _) (by show 0 ≤ 64; omega)
      have c3 : (PyData.str s).canLay0 = true := os
      rw [a.2.1, c3, decide_eq_true c2]
      rfl
    unfold eqF
    rw [hs]
    exact g
  cases d with
  | str t => exact eqStr t s
  | non => rfl
  | bl b => cases b <;> rfl
  | int i => rfl
  | tup xs => unfold cEq; rw [deep rfl]; rfl
  | lst xs => unfold cEq; rw [deep rfl]; rfl
  | _ => cases k <;> simp [pd] at p
theorem eqNil {n k : Nat} {h : Hd} {xs : List D} (p : pd n k (.tup xs)) : cEq (.tup xs) (.tup []) h = .ok xs.isEmpty h := by
  have a := pd_py p
  have e2 : pyO h (.tup []) = some (.tuple []) := rfl
  have e : eqF h (.tup xs) (.tup []) = some xs.isEmpty := by
    show eqF.deepE h (.tup xs) (.tup []) = _
    unfold eqF.deepE
    rw [pd_pyO p, e2]
    simp only [Option.bind_some]
    have c2 : min (pyD (.tup xs)).depth (PyData.tuple []).depth ≤ 64 := Nat.le_trans (Nat.min_le_right _ _) (by decide)
    rw [a.2.1, show (PyData.tuple []).canLay0 = true from rfl, decide_eq_true c2]
    show (if true = true then _ else _) = _
    rw [if_pos rfl]
    cases xs <;> rfl
  unfold cEq
  rw [e]
  rfl
/-- a datum in a tuple of texts -/
def inTx (ss : List Str) : D → Bool
  | .str t => decide (t ∈ ss)
  | _ => false
theorem pyDs_tx : ∀ ss : List Str, pyDs (ss.map .str) = ss.map .str := pyDs_strs
theorem inTxs {n k : Nat} {h : Hd} {d : D} {ss : List Str} (os : ∀ s ∈ ss, sOk s) (p : pd n k d) : cInX d (.tup (ss.map .str)) h = .ok (inTx ss d) h := by
  have flat : flatD d = true → (∀ s, d ≠ .str s) → (ss.map D.str).all (fun y => !eqFlat y d) = true → cInX d (.tup (ss.map .str)) h = .ok false h := fun hf _ hz => by
    rw [cInX_flat hf (strs_flat ss)]
    congr 1
    unfold inFlat
    rw [List.any_eq_false]
    intro y m
    have := List.all_eq_true.mp hz y m
    simpa using this
  have deep : flatD d = false → (∀ z : Str, PyData.eqv (.str z) (pyD d) = false) → cInX d (.tup (ss.map .str)) h = .ok false h := fun hf hz => by
    have a := pd_py p
    have e0 : inF h d (.tup (ss.map .str)) = none := by
      have g : inSeq h d (.tup (ss.map .str)) = none := by
        unfold inSeq
        simp only [seqOf_tup, Option.bind_some, hf, Bool.false_and]
        rfl
      cases d with
      | str s => simp [flatD] at hf
      | _ => exact g
    have e2 : inTupD h d (.tup (ss.map .str)) = some false := by
      unfold inTupD
      rw [pd_pyO p]
      simp only []
      rw [a.2.1, isPys_strs, pyDs_strs, lay_strs ss os, depth_strs]
      show some _ = _
      congr 1
      rw [List.any_eq_false]
      intro z m
      obtain ⟨t, _, rfl⟩ := List.mem_map.mp m
      rw [hz t]
      decide
    unfold cInX
    rw [e0]
    simp only [e2, optR_some]
  have af : ∀ (d : D), (∀ t : Str, eqFlat (.str t) d = false) → (ss.map D.str).all (fun y => !eqFlat y d) = true := fun d q => by
    rw [List.all_eq_true]
    intro y m
    obtain ⟨t, _, rfl⟩ := List.mem_map.mp m
    rw [q t]; rfl
  cases d with
  | str t => exact cInX_strs t ss
  | non => exact flat rfl (fun s e => by cases e) (af _ fun _ => rfl)
  | bl b => exact flat rfl (fun s e => by cases e) (af _ fun _ => rfl)
  | int i => exact flat rfl (fun s e => by cases e) (af _ fun _ => rfl)
  | tup xs => exact deep rfl fun _ => rfl
  | lst xs => exact deep rfl fun _ => rfl
  | _ => cases k <;> simp [pd] at p
theorem inTx2 {n k : Nat} {h : Hd} {d : D} {a b : Str} (os : sOk a ∧ sOk b) (p : pd n k d) : cInX d (.tup [.str a, .str b]) h = .ok (inTx [a, b] d) h := inTxs (ss := [a, b]) (by intro s m; simp only [List.mem_cons, List.not_mem_nil, or_false] at m; rcases m with rfl | rfl; exact os.1; exact os.2) p
theorem inTx3 {n k : Nat} {h : Hd} {d : D} {a b c : Str} (os : sOk a ∧ sOk b ∧ sOk c) (p : pd n k d) : cInX d (.tup [.str a, .str b, .str c]) h = .ok (inTx [a, b, c] d) h := inTxs (ss := [a, b, c]) (by intro s m; simp only [List.mem_cons, List.not_mem_nil, or_false] at m; rcases m with rfl | rfl | rfl; exact os.1; exact os.2.1; exact os.2.2) p
end DD
set_option Elab.async false
set_option linter.all false
set_option maxRecDepth 100000
set_option maxHeartbeats 4000000
namespace DD
open PySem PySem.Spec L2 RZ
/-! a, b = a list -/
def gUnlM (n : Nat) (gs : MGs) : MG := fun d ρ h => match lstOf h d with
  | some xs => if xs.length = n then gs xs ρ h else .bad
  | none => .bad
section
variable {X : Cx} {W : WX} {pos : Pos}
theorem g_unl {es : List Expr} {k : Nat} {n : Nat} {ix : List Nat} {gs : MGs} (hc : X.calm = true) (h : SGs X W ix es gs) (hn : (assignEach es X.env).length = n := by rfl) (hst : (assignEach es X.env).findIdx? (·.1) = none := by rfl) : SG X W ix (.Tuple es k pos) (gUnlM n gs) :=
  PG.imp (pg_unl hc h.g hn hst) fun v σ H Q ⟨w, ρ, hd, d, e, s, r, p⟩ => by
  cases el : lstOf hd d with
  | some xs =>
    have p' : PostG (Cx.ct X) w W ix σ (gUnlM n gs d ρ hd) Q := p
    unfold gUnlM at p'
    rw [el] at p'
    simp only at p'
    split at p'
    · rename_i hl
      obtain ⟨a, vs, rfl, hq, z⟩ := lstOf_ok s r el
      exact ⟨a, vs, rfl, SqL.of hq, by rw [← z.len, hl], w, ρ, hd, xs, e, s, z, p'⟩
    · exact p'.elim
  | none =>
    have p' : PostG (Cx.ct X) w W ix σ (gUnlM n gs d ρ hd) Q := p
    unfold gUnlM at p'
    rw [el] at p'
    exact p'.elim
end
section
variable {h : Hd} {ρ : Env}
@[simp] theorem gUnlM_lst (n : Nat) (gs : MGs) (xs : List D) (ρ : Env) (h : Hd) : gUnlM n gs (.lst xs) ρ h = if xs.length = n then gs xs ρ h else .bad := rfl
end
end DD
set_option Elab.async false
set_option linter.all false
set_option maxRecDepth 100000
set_option maxHeartbeats 4000000
namespace DD
open PySem PySem.Spec L2 RZ PyProof.Rows
/-! ## sorted(a list of ints) -/
def leI (a b : Int) : Bool := decide (a ≤ b)
def srtI (l : List Int) : List Int := l.mergeSort leI
theorem srtI_perm (l : List Int) : (srtI l).Perm l := List.mergeSort_perm l leI
theorem srtI_up (l : List Int) : (srtI l).Pairwise (· ≤ ·) :=
  (List.pairwise_mergeSort (le := leI) (fun a b c h1 h2 => by unfold leI at *; simp at *; omega) (fun a b => by unfold leI; simp; omega) l).imp fun h => by unfold leI at h; simpa using h
theorem srtI_one {l m : List Int} (p : m.Perm l) (u : m.Pairwise (· ≤ ·)) : m = srtI l :=
  List.Perm.eq_of_pairwise (fun a b _ _ h1 h2 => by omega) u (srtI_up l) (p.trans (srtI_perm l).symm)
theorem srtI_mem {l : List Int} {i : Int} : i ∈ srtI l ↔ i ∈ l := (srtI_perm l).mem_iff
theorem srtI_len (l : List Int) : (srtI l).length = l.length := (srtI_perm l).length_eq
def listOf (h : Hd) : D → Option (List D)
  | .rol xs => some xs
  | d => lstOf h d
def srtF : List D → Hd → Res O
  | [x], h => match (listOf h x).bind keysI with
    | some ns => if ns.length < 64 then .ok (.new (.lst ((srtI ns).map .int))) h else .bad
    | none => .bad
  | _, _ => .bad
theorem listOf_ok {c : Ct} {w : Wd} {h : Hd} {H : Hp} {d : D} {v : V} {xs : List D} (s : SR c w h H) (r : VR c w d v) (e : listOf h d = some xs) : ∃ a vs, v = .ref a ∧ SqL c.K H a vs ∧ VRs c w xs vs := by
  have go : ∀ {d : D}, lstOf h d = some xs → VR c w d v → ∃ a vs, v = .ref a ∧ SqL c.K H a vs ∧ VRs c w xs vs := fun e r => by
    obtain ⟨a, vs, e1, q, z⟩ := lstOf_ok s r e
    exact ⟨a, vs, e1, SqL.of q, z⟩
  cases d with
  | rol ys =>
    simp only [listOf, Option.some.injEq] at e; subst e
    simp only [VR] at r
    obtain ⟨a, vs, e1, q, z⟩ := r
    exact ⟨a, vs, e1, SqL_le s.F q, z⟩
  | _ => exact go (by simpa only [listOf] using e) r
theorem s_srt {c : Ct} : CallS c (rSorted c.K) srtF := fun {w W σ h H vs ds Q} s r p => by
  unfold srtF at p
  split at p
  · rename_i x
    obtain ⟨v, rfl, rv⟩ := r.one_inv
    split at p
    · rename_i ns en
      split at p
      · rename_i hn
        rw [Option.bind_eq_some_iff] at en
        obtain ⟨xs, e1, e2⟩ := en
        obtain ⟨a, us, rfl, hq, ru⟩ := listOf_ok s rv e1
        have eu := keysI_ok ru e2
        subst eu
        refine ⟨a, ns, rfl, hq, hn, fun ms q pm up hnew => ?_⟩
        rw [srtI_one pm up]
        obtain ⟨s2, r2⟩ := new_obj (z := .lst ((srtI ns).map .int)) s hnew (by intro z; cases z) ⟨_, upd_same, VRs_ints _⟩
        exact p _ w _ (.refl _) r2 s2
      · exact p.elim
    · exact p.elim
  · exact p.elim
/-! ## f(k = .., p = ..): all by their names, the keyword-only one first -/
def rot1 {α : Type} : List α → List α
  | [] => []
  | a :: l => l ++ [a]
theorem rot1_vals {zs : List V} {ws : List Value} (h : Vals zs ws) : Vals (rot1 zs) (rot1 ws) := by
  cases h with
  | nil => exact .nil
  | cons a r => exact Vals.append r (.cons a .nil)
theorem rot1_vrs {c : Ct} {w : Wd} {ds : List D} {vs : List V} (h : VRs c w ds vs) : VRs c w (rot1 ds) (rot1 vs) := by
  cases ds with
  | nil => simp only [VRs] at h; subst h; exact .nil
  | cons d ds =>
    simp only [VRs] at h
    obtain ⟨v, r, rfl, a, b⟩ := h
    exact b.append (.one a)
structure DefKA (K : PySem.W.Frag) (mg : Str → Option Value) (x : Str) (st : Stmt) (ps : List Str) (n : Nat) (ks : List Str) (dvs : List D) (kn : List Str) (f : Addr) (fd : FuncData) : Prop extends DefK K mg x st ps n ks dvs f fd where
  ba : KBn K fd ps 0 kn (fun _ ws => rot1 ws) (fun _ zs => rot1 zs)
structure CalleeKA (P : Program) (w : World) (K : PySem.W.Frag) (mg : Str → Option Value) (base : Heap) (k : Nat) (x : Str) (n : Nat) (ks : List Str) (dvs : List D) (kn : List Str) (m : List D → Hd → Res D) : Prop where
  ex : ∃ (f : Addr) (fd : FuncData) (ps : List Str), FnOk P w K mg base (L2.CX P w) k f fd ps (spM ⟨K, mg⟩ (n + ks.length) m) ∧ mg x = some (.ref f) ∧ PySem.W.keepIn K (.ref f) = true ∧ KBn K fd ps 0 kn (fun _ ws => rot1 ws) (fun _ zs => rot1 zs)
  k : CalleeK P w K mg base k x n ks dvs m
section
variable {P : Program} {w : World} {K : PySem.W.Frag} {mg : Str → Option Value} {base : Heap} {x : Str} {st : Stmt} {ps ks kn N : List Str} {f : Addr} {fd : FuncData} {k n : Nat} {dvs : List D} {b : MS} {m : List D → Hd → Res D}
theorem DefKA.callee (A : DefKA K mg x st ps n ks dvs kn f fd) (F : FnOk P w K mg base (L2.CX P w) k f fd ps (spM ⟨K, mg⟩ (n + ks.length) m)) : CalleeKA P w K mg base k x n ks dvs kn m := by
  obtain ⟨kws, F0⟩ := A.F
  exact ⟨⟨f, fd, ps, F, A.m, F0.kp, A.ba⟩, A.toDefK.callee F⟩
theorem CalleeKA.mono {j : Nat} (C : CalleeKA P w K mg base j x n ks dvs kn m) (h : j ≤ k) : CalleeKA P w K mg base k x n ks dvs kn m :=
  let ⟨f, fd, ps, F, r⟩ := C.ex
  ⟨⟨f, fd, ps, F.mono h, r⟩, C.k.mono h⟩
theorem def_allK (A : DefK K mg x st ps n ks dvs f fd) (h : ∀ ws : List Value, ws.length = kn.length → bindArgs fd ⟨[], kn.zip ws⟩ = pure (ps.zip (rot1 ws))) : DefKA K mg x st ps n ks dvs kn f fd :=
  ⟨A, ⟨fun s us ws _ hu hw => by
    have e : us = [] := List.length_eq_zero_iff.mp hu
    subst e
    exact .of_eq (h ws hw), fun _ r => rot1_vals r⟩⟩
end
def mCallA (j : Nat) (m : List D → Hd → Res D) (mk : MA) : ME := fun ρ h => (mk ρ h).bind fun es h => if es.length = j then m (rot1 es) h else .bad
section
variable {X : Cx} {W : WX} {kws : List Keyword} {mks : MA} {pos p : Pos} {x : Str} {k n j : Nat} {ks kn : List Str} {dvs : List D} {m : List D → Hd → Res D}
theorem e_callA (C : CalleeKA X.prog X.w X.K X.mg X.base k x n ks dvs kn m) (hr : Room k X.A) (tk : Takes X W) (hkw : SK X W kws mks) (hks : (backToKw pos (keywordEach kws X.env)).filterMap (·.1) = kn := by rfl) (hj : n + ks.length = j := by rfl) (hj2 : kn.length = j := by rfl) (hg : Gl X x := by rfl)
    (hdb : (x == ("__debug__" : Str)) = false := by decide) (hall : (backToKw pos (keywordEach kws X.env)).all (·.1.isSome) = true := by rfl)
    (hpl : ((backTo pos (starEach [] X.env)).any (·.1) || (backToKw pos (keywordEach kws X.env)).any (·.1.isNone)) = false := by rfl) : SE X W (.Call (.Name x p) [] kws pos) (mCallA j m mks) := by
  obtain ⟨f, fd, ps, F, hm, hk, hb⟩ := C.ex
  refine ⟨fun pins s σ H Q I h => ?_⟩
  refine wpAny_Call_Name_kw (ld_glob I hg hm (PySem.W.callWith_KW0 (h₀ := X.base) I.ok.mod.kin hk hall ?_ hpl) hdb)
  have h2 : tP (RVs (Cx.ct X)) (Cx.ct X) W mks σ H (fun zs H2 => zs.length = j ∧ spM (Cx.ct X) (n + ks.length) m (rot1 zs) H2 Q (WE W σ)) := by
    refine (tP.bind (k := fun ρ es h => if es.length = j then m (rot1 es) h else .bad) h).mono fun zs H2 ⟨w2, ρ, h2, bs, e2, s2, r2, p2⟩ => ?_
    split at p2
    · rename_i hn
      refine ⟨by rw [← r2.len]; exact hn, w2, rot1 bs, h2, rot1_vrs r2, s2, ?_, ?_⟩
      · rw [hj, ← hn]; cases bs <;> simp [rot1]
      · cases q : m (rot1 bs) h2 with
        | ok d h2 => rw [q] at p2; exact p2
        | exc x h2 => rw [q] at p2; exact p2
        | bad => rw [q] at p2; exact p2
    · exact p2.elim
  refine thn (hkw.run pos pins s σ H _ I h2) fun ws s2 ⟨zs, H2, I2, rz, l2, q2⟩ => ⟨I2.kIn, ?_⟩
  rw [hks]
  refine wpAny_call (codeAny_mono (F.run X.A X.stack s2 H2 ⟨[], kn.zip ws⟩ (rot1 ws) (rot1 zs) Q (WE W σ) hr I2.env0 (hb.to s2 [] ws I2.kIn rfl (by rw [← rz.length, l2, hj2])) (rot1_vals rz) q2) fun r s' hq => ?_)
  cases r with
  | error e => exact passAt tk σ pins H2 s2 e s' I2 hq
  | ok fl =>
    cases fl with
    | ret u => exact I2.after hq
    | next => exact False.elim hq
    | brk => exact False.elim hq
    | cont => exact False.elim hq
end
end DD
set_option Elab.async false
set_option linter.all false
set_option maxRecDepth 100000
set_option maxHeartbeats 4000000
namespace DD
open PySem PySem.Spec L2
/-! ## raise X() -/
/-- what is known of an own class of errors -/
structure ErrK (K : PySem.W.Frag) (mg : Str → Option Value) (x : Str) (C : Addr) : Prop where
  m : mg x = some (.ref C)
  k : PySem.W.keepIn K (.ref C) = true
  s : PySem.W.subIn K (.ref C) (.type "BaseException") = some true
  t : PySem.W.typeIn K (.ref C) = some (.type "type")
/-- .. of the kind ValueError, without an own __init__ -/
structure ErrV (K : PySem.W.Frag) (mg : Str → Option Value) (x : Str) (C : Addr) : Prop extends ErrK K mg x C where
  i : PySem.W.excIn K C HandSPX.veTail "ValueError.__new__" = true
theorem pmk_no {X : Cx} {C : Addr} {x : Str} {p pos : Pos} (V : ErrV X.K X.mg x C) (hg : Gl X x) (hdb : (x == ("__debug__" : Str)) = false := by decide) : PMk X (.Call (.Name x p) [] [] pos) (fun _ H Q => Q (.ref C) none H) := by
  intro pins s σ H Q I h
  refine wpAny_Call_Name_kw (ld_glob I hg V.m (PySem.W.callWith_K0 I.kIn V.k ?_) hdb)
  obtain ⟨bm, N, nm, qn, bs, hdct, sn, sub, ab, col, dd, k0, k1, k2, k3, k5, mN, oC, oN, ni, tl⟩ := exc_obj I.kIn V.i
  show wpAny _ _ (call (.ref C) []) _ _ _
  exact wpAny_call_exc_subT PySem.F.excBase_ValueError tl oC oN ni (fun h' e hm => mk_of I hm (raises_own V.s V.t) h (I.hok.gone hm.new)) (by show 0 ≤ sizeLine; omega)
def mRaise (c : Str) : MS := fun ρ h => .exc ⟨c, [], []⟩ ρ h
theorem s_raise {X : Cx} {W : WX} {C : Addr} {x : Str} {p pos pos' : Pos} (V : ErrV X.K X.mg x C) (hc : X.calm = true) (tk : Takes X W) (hg : Gl X x := by rfl) (hdb : (x == ("__debug__" : Str)) = false := by decide) : SS X W (.Raise (some (.Call (.Name x p) [] [] pos)) none pos') (mRaise x) :=
  PS.imp (ps_raise hc tk (pmk_no V hg hdb)) fun Dn σ H ⟨w, ρ, h, e, s, q⟩ => q (.ref C) none σ w H (.refl w) e s ⟨C, V.m, rfl, .inl ⟨rfl, rfl⟩⟩
end DD
set_option Elab.async false
set_option linter.all false
set_option maxRecDepth 100000
set_option maxHeartbeats 4000000
namespace DD
open PySem PySem.Spec L2 PyProof.Rows
/-! ## the names that two classes are caught by -/
theorem exm_pair {M : Model} {K : PySem.W.Frag} {c1 c2 cls : Value} {tp e : Addr} {n : Nat} {b : Bool} {h : Heap} (X : K.In h) (LT : PySem.W.Looks M h (typeOf (.ref e)) cls) (hp : h.get? tp = some { cls := .type "tuple", data := .seq [c1, c2].toArray })
    (hx : PySem.W.exmAny K cls [c1, c2] = some b) : PySem.W.Looks M h (excMatches (.ref e) (.ref tp)) b := PySem.W.exm_tup2 X LT hp hx
theorem flies_push {B h : Heap} {l : List PySem.Env} {a : Addr} {Z : Obj → Prop} (f : HandSPX.FlyingZ B l a Z h) (o : Obj) : HandSPX.FlyingZ B l a Z (h.push o) := by
  obtain ⟨f1, f2, f3, oe, vs, T, oT, ts, g1, g2, g3, g4, g5, g6, g7, g8, g9⟩ := f
  exact ⟨fun b u e => Heap.get?_push_of_some _ (f1 b u e), f2, f3.of_keeps fun b u e _ => ⟨u, Heap.get?_push_of_some _ e, rfl⟩, oe, vs, T, oT, ts, Heap.get?_push_of_some _ g1, g2, g3, g4, g5, g6, Heap.get?_push_of_some _ g7, g8, g9⟩
theorem upTo_push {h h' : Heap} (u : h.UpToSlots h') (o : Obj) : h.UpToSlots (h'.push o) := fun b x e nf => by
  obtain ⟨sl, q⟩ := u b x e nf
  exact ⟨sl, Heap.get?_push_of_some _ q⟩
/-- the clauses' wish: the first one is passed by, the second one takes it -/
def wTwo (K : PySem.W.Frag) (c1 c2 c3 : Value) (i : Nat) (ts : Addr → Value → Option Addr → TS) (Dn : Ends) : WX := fun cls d σ H =>
  PySem.W.exmOne K cls c1 = some false ∧ PySem.W.exmAny K cls [c2, c3] = some true ∧
    ∀ a, H a = none → ts a cls d { nx := fun σ' H' => Dn.nx (σ'.set i none) H', rt := Dn.rt, bk := fun σ' H' => Dn.bk (σ'.set i none) H', ct := fun σ' H' => Dn.ct (σ'.set i none) H' } (σ.set i (some (.ref a))) H
section
variable {X : Cx} {x1 x2 x3 n : Str} {c1 c2 c3 : Value} {i k : Nat} {body su1 suite : List Stmt} {b1 b₀ : Stmt} {np1 np2 np3 tp pos pos1 pos' : Pos} {tb : WX → TS} {ts : Addr → Value → Option Addr → TS}
theorem ps_two (hs : X.stack = X.env :: X.outer) (hf : X.env.frame = some X.env.locals) (nd : X.N.Nodup) (hi : X.N[i]? = some n) (kl : X.env.kindOf n = some .local) (hc1 : Names X x1 c1) (hc2 : Names X x2 c2) (hc3 : Names X x3 c3)
    (hb : ∀ (W : WX) (pn : List (Addr × Obj)) (xe : Value → Shared → Prop), Takes (X.tr pn xe) W → PassesOwn (model X.prog X.w) X.A X.env xe → PSs (X.tr pn xe) body (tb W))
    (hsu : ∀ (a : Addr) (oe : Obj) (cls : Value) (d : Option Addr) (pn : List (Addr × Obj)), Zc cls d oe → (∃ vs, oe.data = .fields vs) → PSs (X.suite a ((a, oe) :: pn)) (b₀ :: suite) (ts a cls d)) :
    PS X (.Try body [.ExceptHandler (some (.Name x1 np1)) (some n) (b1 :: su1) pos1, .ExceptHandler (some (.Tuple [.Name x2 np2, .Name x3 np3] k tp)) (some n) (b₀ :: suite) pos'] [] [] pos)
      (fun Dn σ H => tb (wTwo X.K c1 c2 c3 i ts Dn) Dn σ H) := by
  refine ⟨fun pins s σ H Dn I h => ?_⟩
  have okX := I.ok
  have fr0 : X.A.frames = some (X.env :: X.outer) := okX.frames.trans (congrArg some hs)
  have lc : Loc X.env.scope n := .inl kl
  refine wpAny_Try_except ?_
  refine wpAny_mono ((hb (wTwo X.K c1 c2 c3 i ts Dn) (X.pn ++ pins) (fun e s₁ => wpAny (model X.prog X.w) X.A (noteFrame e X.env) (fun _ s₂ => wpAny (model X.prog X.w) X.A (setFlight e none) (fun _ s₃ =>
    wpAny (model X.prog X.w) X.A (handleBy e X.env [.ExceptHandler (some (.Name x1 np1)) (some n) (b1 :: su1) pos1, .ExceptHandler (some (.Tuple [.Name x2 np2, .Name x3 np3] k tp)) (some n) (b₀ :: suite) pos']) (L2.SP X pins Dn) X.xe s₃) X.xe s₂) X.xe s₁)
      (fun u s' xx => ?_) PassesOwn.looking).run [] s σ H Dn (I.toTry _) h) (fun fl s1 z => ?_) (fun e s1 he => he)
  · obtain ⟨a, B, sI, pins', σ', H', cls, d, rfl, Jt, nb, up, sky, na, os, ag, no1, yes2, want⟩ := xx
    have J : Inv X pins σ' H' sI := Jt.ofTry okX
    rw [hs] at sky
    show wpAny (model X.prog X.w) X.A (noteFrame (.ref a) X.env) _ _ _
    refine Sky.land Zc.steady fr0 hf sky fun h3 fl3 up3 => ?_
    have up03 := up.trans up3
    have J3 : Inv X pins σ' H' { s' with heap := h3 } := J.landed nb fl3.1 up03 os ag
    obtain ⟨oe3, vs3, he3, hz3, hd3⟩ := fl3.there
    have nfr : a ∉ frs (X.env :: X.outer) := fun hm => by
      obtain ⟨_, o', e', hnf⟩ := fl3.2.2.1.mem hm
      rw [he3] at e'; cases e'
      exact hnf _ hd3
    have nL : a ≠ X.env.locals := fun z => nfr (List.mem_filterMap.mpr ⟨X.env, List.mem_cons_self, by rw [hf, z]⟩)
    have nF : a ∉ X.fs := fun hm => by
      obtain ⟨e, he, q⟩ := List.mem_filterMap.mp hm
      exact nfr (List.mem_filterMap.mpr ⟨e, List.mem_cons_of_mem _ he, q⟩)
    have S3 := J3.suite he3 hd3 na nL nF
    have nm : ∀ {x : Str} {c : Value} {np : Pos} {Q E : Value → Shared → Prop}, Names X x c → Q c { s' with heap := h3 } → wpAny (model X.prog X.w) (X.A.mark (some (.ref a))) (eval (.Name x np) X.env) Q E { s' with heap := h3 } := fun {x c np Q E} hc q => by
      obtain ⟨hg, hdbg, hm | ⟨hm, hv, hnn⟩⟩ := hc
      · exact ld_glob (X := X.suite a ((a, oe3) :: (X.pn ++ pins))) S3 hg hm q hdbg
      · exact ld_blt (X := X.suite a ((a, oe3) :: (X.pn ++ pins))) S3 hg hm hv q hnn hdbg
    have LT3 : PySem.W.Looks (model X.prog X.w) h3 (typeOf (.ref a)) cls := fun A Q E s k q => wpAny_typeOf_ref (k _ _ he3) (by rw [hz3.1]; exact q)
    -- the first clause
    refine wpAny_handleBy_cons (codeAny_handlers_test (nm hc1 ((PySem.W.exm_one (M := model X.prog X.w) J3.kIn LT3 no1).here ?_))) (by intro q; cases q)
    show wpAny _ X.A (handleBy (.ref a) X.env [.ExceptHandler (some (.Tuple [.Name x2 np2, .Name x3 np3] k tp)) (some n) (b₀ :: suite) pos']) _ _ _
    -- the second one
    refine wpAny_handleBy_cons (codeAny_handlers_test (wpAny_Tuple_spliced ?_)) (by intro q; cases q)
    show wpAny _ _ (spliced ((false, eval (.Name x2 np2) X.env) :: (false, eval (.Name x3 np3) X.env) :: [])) _ _ _
    refine Calls.spliced_cons (nm hc2 (Calls.spliced_cons (nm hc3 (Calls.spliced_nil ⟨by show 2 ≤ sizeLine; rw [sizeLine_eq]; omega, ?_⟩))))
    have fl5 := flies_push fl3 { cls := .type "tuple", data := .seq [c2, c3].toArray }
    have up5 := upTo_push up03 { cls := .type "tuple", data := .seq [c2, c3].toArray }
    have J5 : Inv X pins σ' H' { s' with heap := h3.push { cls := .type "tuple", data := .seq [c2, c3].toArray } } := J.landed nb fl5.1 up5 os ag
    have he5 := Heap.get?_push_of_some { cls := .type "tuple", data := .seq [c2, c3].toArray } he3
    have LT5 : PySem.W.Looks (model X.prog X.w) (h3.push { cls := .type "tuple", data := .seq [c2, c3].toArray }) (typeOf (.ref a)) cls := LT3.keeps fun b o e => Heap.get?_push_of_some _ e
    refine (PySem.W.exm_tup2 (M := model X.prog X.w) (e := a) J5.kIn LT5 (Heap.get?_push_size _ rfl) yes2).here ?_
    refine codeAny_handlers_suite_as ?_
    refine HandSPX.lands_againZ fl5 fun h4 fl4 up4 => ?_
    have J4 : Inv X pins σ' H' { s' with heap := h4 } := J.landed nb fl4.1 (up5.trans up4) os ag
    obtain ⟨oe4, vs4, he4, hz4, hd4⟩ := fl4.there
    have S4 := J4.suite he4 hd4 na nL nF
    refine store_ok (X := X.suite a ((a, oe4) :: (X.pn ++ pins))) (v := .ref a) S4 nd hi lc rfl (fun s5 S5 => ?_) (.inr kl)
    refine wpAny_mono ((hsu a oe4 cls d (X.pn ++ pins) hz4 ⟨_, hd4⟩).run [] s5 _ H' _ S5 (want a na)) (fun fl s6 z => ?_) (fun _ _ z => False.elim z)
    have out : ∀ {σ6 : L2.St} {H6 : Hp} {Q : Shared → Prop}, Inv (X.suite a ((a, oe4) :: (X.pn ++ pins))) [] σ6 H6 s6 → (∀ s7, Inv X pins (σ6.set i none) H6 s7 → Q s7) →
        wpAny (model X.prog X.w) X.A (do bindName X.env n .none; unbindBehindTheSuite X.env n pos') (fun _ s7 => Q s7) X.xe s6 := fun {σ6 H6 Q} S6 hq => gone_ok (S6.unsuite okX) nd hi kl hq
    cases fl with
    | ret u => exact let ⟨v6, σ6, H6, S6, r6, q6⟩ := z; out S6 fun s7 J7 => ⟨_, _, _, J7, r6, q6⟩
    | next => exact let ⟨σ6, H6, S6, q6⟩ := z; out S6 fun s7 J7 => ⟨_, _, J7, q6⟩
    | brk => exact let ⟨σ6, H6, S6, q6⟩ := z; out S6 fun s7 J7 => ⟨_, _, J7, q6⟩
    | cont => exact let ⟨σ6, H6, S6, q6⟩ := z; out S6 fun s7 J7 => ⟨_, _, J7, q6⟩
  · cases fl with
    | ret u => exact let ⟨v, σ', H', J', r, q⟩ := z; ⟨v, σ', H', J'.ofTry okX, r, q⟩
    | next => exact let ⟨σ', H', J', q⟩ := z; wpAny_execs_nil ⟨σ', H', J'.ofTry okX, q⟩
    | brk => exact let ⟨σ', H', J', q⟩ := z; ⟨σ', H', J'.ofTry okX, q⟩
    | cont => exact let ⟨σ', H', J', q⟩ := z; ⟨σ', H', J'.ofTry okX, q⟩
end
/-! ## e.called(), in the clause that caught e -/
/-- a def without any work: it tells a text -/
structure SayK (K : PySem.W.Frag) (f : Addr) (t : Str) : Prop where
  ex : ∃ (name qual : Str) (params : Arguments) (j : Nat) (p p' : Pos) (scope : Scope) (dV kV doc pm cdv ct oc : Value) (an od : Option Addr) (osl : Array (Option Value)),
    K.lookup f = some ⟨oc, od, .func (PySem.W.fnOf name qual params [.Return (some (.Constant (.str t) j p)) p'] scope dV kV doc pm an cdv ct), osl⟩ ∧ PySem.W.codeIn K cdv qual = true ∧ FnScope ["self"] ["self"] scope ∧
      L2.Binds K (PySem.W.fnOf name qual params [.Return (some (.Constant (.str t) j p)) p'] scope dV kV doc pm an cdv ct) ["self"] []
  kp : PySem.W.keepIn K (.ref f) = true
  fn : PySem.W.isFn K (.ref f) = true
theorem say_run {X : Cx} {f : Addr} {t : Str} {pins : List (Addr × Obj)} {σ : L2.St} {H : Hp} {s : Shared} {a : Addr} {p : Addr × Obj} {Q : VK} (C : SayK X.K f t) (hd : X.A.depth < recursionLimit) (hp : p ∈ X.pn) (I : Inv X pins σ H s) (q : Q (.str t) H) :
    codeAny (model X.prog X.w) X.A (.call (.ref f) ⟨[.ref a], []⟩) (CR C8.CX0 X.stack X.prog X.w H s Q C8.E0) s := by
  obtain ⟨name, qual, params, j, p1, p2, scope, dV, kV, doc, pm, cdv, ct, oc, an, od, osl, lk, hcd, S, hb⟩ := C.ex
  have P1 := I.pin p (List.mem_append_left _ hp)
  have hpin : L2H.PinOk X.stack H s p := ⟨P1.1, P1.2.1, fun hm => (List.mem_cons.mp (I.stkSub p.1 hm)).elim P1.2.2.1 P1.2.2.2.1, P1.2.2.2.2⟩
  have lim : s.heap.NoLimit := I.env0.mod.nolimit.keeps fun b o e => (I.env0.bs b o e).1
  have kind1 : ∀ y ∈ (["self"] : List Str).zip [Value.ref a], scope.names.lookup y.1 = some .local ∨ (scope.names.lookup y.1 = some .cell ∧ ((cellsFrom (s.heap.objs.size + 1) scope.names []).lookup y.1).isSome = true) := fun ⟨y, v⟩ hy => by
    rcases S.par y (List.of_mem_zip hy).1 with q | q
    · exact .inl q
    · exact .inr ⟨q, PySem.W.cellsFrom_some _ _ _ (.inl q)⟩
  refine codeAny_call_function hd (I.kIn _ _ lk) rfl S.co S.gen rfl (PySem.W.codeRec_of I.kIn hcd) (hb s [.ref a] I.kIn rfl _ _ _ _ ?_)
  refine wpAny_newFunctionEnv_cells S.kind kind1 fun env he s1 x => ?_
  subst he
  refine ⟨lim.keeps x.toInCall.keep, codeAny_func ?_⟩
  have J : Inv (L2H.cxH C8.CX0 X.prog X.w X.K X.mg X.base ["self"] qual scope f cdv X.A X.stack s H C8.E0 p) [] (L2.start ["self"] [.ref a]) H s1 := L2H.inv_startH S hpin I.env0 rfl (.cons rfl .nil) x
  refine wpAny_mono ((pss_one (ps_ret pe_str)).run [] s1 (L2.start ["self"] [.ref a]) H { nx := fun _ H' => Q .non H', rt := Q } J q) (fun fl s' hs => ?_) fun e s' hs => hs
  cases fl with
  | ret u => exact let ⟨v, σ', H', J, rv, q⟩ := hs; ⟨v, H', J.os, J.bare, J.base, J.hok, rv, q⟩
  | next => exact let ⟨σ', H', J, q⟩ := hs; ⟨V.non, H', J.os, J.bare, J.base, J.hok, rfl, q⟩
  | brk => exact let ⟨_, _, _, q⟩ := hs; False.elim q
  | cont => exact let ⟨_, _, _, q⟩ := hs; False.elim q
/-- a class whose errors tell a text -/
structure CalK (K : PySem.W.Frag) (C : Addr) (t : Str) : Prop where
  ga : PySem.W.findIn K (.ref C) "__getattribute__" = some (some (.builtin "BaseException.__getattribute__"))
  gn : PySem.W.findIn K (.ref C) "__getattr__" = some none
  f : ∃ f, PySem.W.findIn K (.ref C) "called" = some (some (.ref f)) ∧ SayK K f t
theorem pe_called {X : Cx} {pl : Sem Bool} {a : Addr} {oe : Obj} {cls : Value} {d : Option Addr} {pn : List (Addr × Obj)} {o : Expr} {to : TE} {apos pos : Pos} (hz : Zc cls d oe) (hf : ∃ vs, oe.data = .fields vs) (hd : X.A.depth < recursionLimit) (he : PE (X.suite a ((a, oe) :: pn)) o to)
    (ht : eval (.Call (.Attribute o "called" apos) [] [] pos) X.env = (do
      let ov ← eval o X.env
      standAt apos.atName
      let (f, first) ← holding [ov] (getMethod ov "called" pl)
      callWith pos f first (backTo pos (starEach [] X.env)) (backToKw pos (keywordEach [] X.env))) := by rfl) :
    PE (X.suite a ((a, oe) :: pn)) (.Call (.Attribute o "called" apos) [] [] pos) (fun σ H Q => to σ H fun x H1 => x = .ref a ∧ d = none ∧ ∃ C t, cls = .ref C ∧ CalK X.K C t ∧ Q (.str t) H1) := by
  refine ⟨fun pins s σ H Q I h => ?_⟩
  refine PySem.W.methodCall_KW (pl := pl) (thn (he.run pins s σ H _ I h) fun u s1 ⟨x, H1, I1, rx, ex, ed, C, t, ec, T, q⟩ => ?_) ht
  subst ex ed ec
  obtain rfl : u = Value.ref a := rx
  obtain ⟨f, hfi, S⟩ := T.f
  obtain ⟨vs, hvs⟩ := hf
  have P1 : s1.heap.get? a = some oe := (I1.pin (a, oe) (List.mem_append_left _ (List.mem_cons_self ..))).1
  have IA : PySem.W.InstAt s1.heap a oe C none := ⟨P1, hz.1, by unfold PySem.W.notCls; rw [hvs], by rw [hz.2]; trivial⟩
  obtain ⟨m, hn, _⟩ := id I1.loc
  refine PySem.W.method_exc0 (K := X.K) (h₀ := X.base) (L := X.env.locals) ⟨hn, fun b o e => (I1.bs b o e).1, Nat.le_trans I1.ok.bsz I1.ok.above⟩ I1.ok.mod.kin IA T.ga T.gn hfi S.fn ?_
  refine PySem.W.callWith_K0 (first := [.ref a]) I1.kIn S.kp ?_
  refine wpAny_call (codeAny_mono (say_run (p := (a, oe)) S hd (List.mem_cons_self ..) I1 q) fun r s' hq => ?_)
  cases r with
  | error e => exact (show False from hq).elim
  | ok fl =>
    cases fl with
    | ret u => exact I1.after hq
    | next => exact False.elim hq
    | brk => exact False.elim hq
    | cont => exact False.elim hq
end DD
set_option Elab.async false
set_option linter.all false
set_option maxRecDepth 100000
set_option maxHeartbeats 4000000
namespace DD
open PySem PySem.Spec L2 PyProof.Rows
/-! ## a(), where a is a lambda that may raise -/
section
variable {X : Cx} {pins : List (Addr × Obj)} {σ : L2.St} {H : Hp} {s : Shared}
/-- the context of the def that got the lambda -/
abbrev inAsk (X : Cx) (Ng : List Str) (qg : Str) (sg : Scope) (g : Addr) (cdg : Value) (s : Shared) (H : Hp) : Cx := cxOf C8.CX0 X.prog X.w X.K X.mg X.base Ng qg sg g cdg X.A X.stack s H C8.E0
theorem lam_act {E : XK} {Ng : List Str} {qg : Str} {sg : Scope} {g f c' : Addr} {cdg pm ctv : Value} {params : Arguments} {body : Expr} {scope : Scope} {k i : Nat} {a : Str} {pn : List (Addr × Obj)} {xe : Value → Shared → Prop} {W : WX} {tb : TE} {p1 p2 : Pos}
    (I : Inv X pins σ H s) (L : LamX.LamS X.env.scope scope) (lies : s.heap.get? f = some (PySem.W.kla_obj "<lambda>" (X.env.qual ++ "<lambda>") params body scope (cloFrom X.env.cells scope.names []) pm c' ctv)) (new : H f = none) (nf : f ∉ frs X.stack)
    (bind0 : bindArgs (PySem.W.kla_fn "<lambda>" (X.env.qual ++ "<lambda>") params body scope (cloFrom X.env.cells scope.names []) pm (.ref c') ctv) ⟨[], []⟩ = pure [])
    (tk : Takes ((inAsk X Ng qg sg g cdg s H).tr pn xe) W) (room : Room (k + 1) (X.A.deeper (envOfC qg sg s.heap.objs.size g cdg)))
    (runs : ∀ (A : Around) (outer : List PySem.Env) (s : Shared) (H : Hp), Room k (A.deeper (LamX.lamEnv X scope s.heap.objs.size f c')) → PE (LamX.lamCx X A outer s H E scope f c') body tb)
    (hN : Ng[i]? = some a) (hv : Vis sg a) (hd : (a == ("__debug__" : Str)) = false := by decide) (hcd : (a == ("__classdict__" : Str)) = false := by decide) :
    PE ((inAsk X Ng qg sg g cdg s H).tr pn xe) (.Call (.Name a p1) [] [] p2)
      (fun σZ HZ Q => σZ[i]? = some (some (.ref f)) ∧ HZ c' = some (LamX.CodeO c' (X.env.qual ++ "<lambda>")) ∧ (∀ cls d H', E cls d H' → W cls d σZ H') ∧ tb σ HZ Q) := by
  refine ⟨fun pinsZ sZ σZ HZ Q IZ ⟨slot, code, esc, want⟩ => ?_⟩
  refine wpAny_Call_Name_kw (thn ((pe_var (pos := p1) (i := i) hN hv hd hcd).run pinsZ sZ σZ HZ (fun v H1 => v = .ref f ∧ H1 = HZ) IZ ⟨.ref f, slot, rfl, rfl⟩) fun u s1 ⟨v, H1, I1, r1, ev, eH⟩ => ?_)
  subst ev eH
  obtain rfl : u = Value.ref f := r1
  have lies1 := I1.base.keep f _ lies new nf (fun z => nomatch (show f ∈ ([] : List Addr) from z))
  refine PySem.W.callWith_F0 ⟨_, _, _, _, lies1⟩ ?_
  have un : Un (frs X.stack) [] H H1 s.heap s1.heap := I1.base
  obtain ⟨⟨oc, vs, t, hoc, hdc, hvc⟩, _, _⟩ := I1.hok c' _ code
  refine wpAny_call (codeAny_mono (R := CR (L2.CX X.prog X.w) (envOfC qg sg s.heap.objs.size g cdg :: X.stack) X.prog X.w H1 s1 Q E) ?_ fun r s' hq => ?_)
  · refine PySem.W.kla_callFunE room.depth lies1 rfl L.co L.gen rfl ⟨c', oc, vs, t, rfl, hoc, hdc, hvc⟩ ?_
    rw [show (⟨([] : List Value) ++ [], []⟩ : Args) = ⟨[], []⟩ from rfl, bind0]
    refine wpAny_pure (wpAny_newFunctionEnv (fun y hy => (L.own y hy).2) (fun y hy => absurd hy (by simp)) (fun h₁ hns hsb => ⟨I1.nolimit.fresh _ hsb, ?_⟩) L.kind)
    show codeAny _ _ (.expr body (LamX.lamEnv X scope s1.heap.objs.size f c')) _ _
    have J : Inv (LamX.lamCx X (X.A.deeper (envOfC qg sg s.heap.objs.size g cdg)) (envOfC qg sg s.heap.objs.size g cdg :: X.stack) s1 H1 E scope f c') [] σ H1 { s1 with heap := h₁, toks := s1.toks + ([] : List (Str × Value)).length } :=
      LamX.lam_start2 I L I1.env0 room.hd un hns fun b o e => hsb.extBut b o (Nat.ne_of_lt (Heap.lt_size e)) (Heap.get?_push_of_some _ e)
    exact PySem.W.kla_codeExpr (wpAny_mono ((runs _ _ s1 H1 (room.deeper _)).run [] _ _ H1 Q J want) (fun v s' ⟨w', H', J', rv, q⟩ => ⟨w', H', J'.os, J'.bare, J'.base, J'.hok, rv, q⟩) fun e s' hq => hq)
  · cases r with
    | error e => exact tk _ _ (XE.of_call I1 esc hq)
    | ok fl =>
      cases fl with
      | ret u => exact I1.after hq
      | next => exact False.elim hq
      | brk => exact False.elim hq
      | cont => exact False.elim hq
/-- the def that got it: what it does with the lambda's reading -/
def AskTo (X : Cx) (Ng : List Str) (x : Str) (sg : Scope) (g : Addr) (cdg : Value) (bg : List Stmt) (a q : Str) (TT : (XK → Hp → VK → Prop) → Hp → VK → Prop) : Prop :=
  ∀ (f c' : Addr) (s : Shared) (H : Hp) (Q : VK) (tl : XK → Hp → VK → Prop), (∀ E H (Q Q' : VK), (∀ v H', Q v H' → Q' v H') → tl E H Q → tl E H Q') → Room 0 (X.A.deeper (envOfC x sg s.heap.objs.size g cdg)) →
    (∀ (E : XK) (W : WX) (pn : List (Addr × Obj)) (xe : Value → Shared → Prop) (p1 p2 : Pos), Takes ((inAsk X Ng x sg g cdg s H).tr pn xe) W →
      PE ((inAsk X Ng x sg g cdg s H).tr pn xe) (.Call (.Name a p1) [] [] p2) (fun σZ HZ Q => σZ[0]? = some (some (.ref f)) ∧ HZ c' = some (LamX.CodeO c' q) ∧ (∀ cls d H', E cls d H' → W cls d σZ H') ∧ tl E HZ Q)) →
    H c' = some (LamX.CodeO c' q) → TT tl H Q →
    ∃ t, PSs (inAsk X Ng x sg g cdg s H).nox bg t ∧ t { nx := fun _ H' => Q .non H', rt := Q } (L2.start Ng [.ref f]) H
theorem pe_asked {T : List (Addr × Str)} {TT : (XK → Hp → VK → Prop) → Hp → VK → Prop} {x a : Str} {g c P : Addr} {k : Nat} {pg : Arguments} {bg : List Stmt} {sg : Scope} {dV kV doc pm cdv ct oc : Value} {an od : Option Addr} {osl : Array (Option Value)} {Ng : List Str}
    {params : Arguments} {body : Expr} {scope : Scope} {t : XK → TE} {p lpos pos : Pos} (hg : Gl X x) (hm : X.mg x = some (.ref g)) (hk : PySem.W.keepIn X.K (.ref g) = true)
    (lk : X.K.lookup g = some ⟨oc, od, .func (PySem.W.fnOf x x pg bg sg dV kV doc pm an cdv ct), osl⟩) (hcg : PySem.W.codeIn X.K cdv x = true) (hb : L2.Binds X.K (PySem.W.fnOf x x pg bg sg dV kV doc pm an cdv ct) [a] []) (Sg : FnScope Ng [a] sg) (hNg : Ng[0]? = some a) (hva : Vis sg a)
    (hG : AskTo X Ng x sg g cdv bg a (X.env.qual ++ "<lambda>") TT)
    (TB : LamX.TabB X.base X.mg c P) (hcode : X.env.code = .ref c) (hmT : (P, X.env.qual ++ "<lambda>") ∈ T) (hu : ∀ p ∈ T, p.1 = P → p.2 = X.env.qual ++ "<lambda>") (hr : Room (k + 2) X.A) (L : LamX.LamS X.env.scope scope) (hdef : defaultsOf params X.env = ([], []))
    (bind0 : ∀ (q : Str) (cl : List (Str × Addr)) (pm cv ctv : Value), bindArgs (PySem.W.kla_fn "<lambda>" q params body scope cl pm cv ctv) ⟨[], []⟩ = pure [])
    (runs : ∀ (A : Around) (outer : List PySem.Env) (s : Shared) (H : Hp) (E : XK) (f c' : Addr), Room k (A.deeper (LamX.lamEnv X scope s.heap.objs.size f c')) → PE (LamX.lamCx X A outer s H E scope f c') body (t E))
    (mono : ∀ E σ H (Q Q' : VK), (∀ v H', Q v H' → Q' v H') → t E σ H Q → t E σ H Q')
    (hdb : (x == ("__debug__" : Str)) = false := by decide) (hd : (a == ("__debug__" : Str)) = false := by decide) (hcd : (a == ("__classdict__" : Str)) = false := by decide) :
    PE X (.Call (.Name x p) [.Lambda params body scope lpos] [] pos) (fun σ H Q => LamX.Tabs T H ∧ ∀ H1, LamX.ExtN H H1 → LamX.Tabs T H1 → TT (fun E H' Q' => t E σ H' Q') H1 Q) := by
  refine ⟨fun pins s σ H Q I ⟨hT, want⟩ => ?_⟩
  refine wpAny_Call_Name_kw (ld_glob I hg hm (PySem.W.callWith_K (h₀ := X.base) I.ok.mod.kin hk ?_ (by rfl) (by rfl)) hdb)
  show wpAny _ _ (spliced ((false, eval (.Lambda params body scope lpos) X.env) :: backTo pos (starEach [] X.env))) _ _ s
  refine Calls.spliced_cons (LamX.lam_make2 I TB hcode hmT hu hT hdef (L.has I.ok) fun f c' pm' ctv H1 s' I1 eN T1 lies new nf hco => Calls.spliced_nil ⟨I1.kIn, ?_⟩)
  refine wpAny_call (codeAny_mono (R := CR C8.CX0 X.stack X.prog X.w H1 s' Q C8.E0) (LamX.run_ofS (N := Ng) (ps := [a]) (us := [.ref f]) (vs := [.ref f]) lk hcg Sg hr I1.env0 (hb s' [.ref f] I1.kIn rfl) (.cons rfl .nil) rfl fun hr' => ?_) fun r s2 hq => ?_)
  · obtain ⟨t', ht', hq'⟩ := hG f c' s' H1 Q (fun E H' Q' => t E σ H' Q') (fun E H Q Q' i q => mono E σ H Q Q' i q) (hr'.mono (Nat.zero_le _)) (fun E W pn xe p1 p2 tk => lam_act (i := 0) I1 L lies new nf (bind0 _ _ _ _ _) tk hr' (fun A outer s H hr2 => runs A outer s H E f c' hr2) hNg hva hd hcd) hco (want H1 eN T1)
    exact ⟨t', ht'.nox, hq'⟩
  · cases r with
    | error e => exact (show False from hq).elim
    | ok fl =>
      cases fl with
      | ret u => exact I1.after hq
      | next => exact False.elim hq
      | brk => exact False.elim hq
      | cont => exact False.elim hq
end
end DD
set_option Elab.async false
set_option linter.all false
set_option maxRecDepth 100000
set_option maxHeartbeats 4000000
namespace DD
open PySem PySem.Spec L2 PyProof.Rows
/-! ## _law_ask -/
def TAsk (K : PySem.W.Frag) (CM CS CN : Addr) : (XK → Hp → VK → Prop) → Hp → VK → Prop := fun tl H Q => ∀ p0, H p0 = none →
  tl (fun cls d H' => PySem.W.exmOne K cls (.ref CM) = some false ∧ PySem.W.exmAny K cls [.ref CS, .ref CN] = some true ∧ d = none ∧ ∃ C t, cls = .ref C ∧ CalK K C t ∧ ∀ p, H' p = none → Q (.ref p) (upd H' p (.tup [.non, .str t]))) (upd H p0 (.tup [.non, .str ""]))
    (fun v H' => ∀ p, H' p = none → Q (.ref p) (upd H' p (.tup [v, .str ""])))
abbrev askN : List Str := ["_law_ask_here", "_law_answer", "_law_why", "e"]
theorem ask_gives {X : Cx} {q : Str} {sg : Scope} {g CM CS CN : Addr} {cdg : Value} {b1 : Stmt} {su1 : List Stmt} {j1 j2 k1 k2 k3 k4 : Nat} {p1 p2 p3 p4 p5 p6 p7 p8 p9 p10 p11 p12 p13 p14 p15 p16 p17 p18 p19 p20 p21 p22 p23 p24 p25 p26 p27 : Pos}
    (l0 : sg.names.lookup ("_law_ask_here" : Str) = some .local) (l1 : sg.names.lookup ("_law_answer" : Str) = some .local) (l2 : sg.names.lookup ("_law_why" : Str) = some .local) (l3 : sg.names.lookup ("e" : Str) = some .local)
    (g1 : sg.names.lookup ("Missing" : Str) = some .globalImplicit) (g2 : sg.names.lookup ("StandError" : Str) = some .globalImplicit) (g3 : sg.names.lookup ("NothingLeft" : Str) = some .globalImplicit)
    (m1 : X.mg "Missing" = some (.ref CM)) (m2 : X.mg "StandError" = some (.ref CS)) (m3 : X.mg "NothingLeft" = some (.ref CN))
    (hw : ∀ (L : Addr), swappedStores [.Tuple [.Name "_law_answer" p1, .Name "_law_why" p2] k1 p3] (.Tuple [.Constant .none j1 p4, .Constant (.str "") j2 p5] k2 p6) (envOfC "_law_ask" sg L g cdg) = pure none)
    (hs : ∀ (L : Addr), swapsWithSole [.Tuple [.Name "_law_answer" p1, .Name "_law_why" p2] k1 p3] (.Tuple [.Constant .none j1 p4, .Constant (.str "") j2 p5] k2 p6) p7.line (envOfC "_law_ask" sg L g cdg) = pure false)
    (ht : ∀ (L : Addr), ∃ pl, eval (.Call (.Attribute (.Name "e" p18) "called" p19) [] [] p20) (envOfC "_law_ask" sg L g cdg) = (do
      let ov ← eval (.Name "e" p18) (envOfC "_law_ask" sg L g cdg)
      standAt p19.atName
      let (f, first) ← holding [ov] (getMethod ov "called" pl)
      callWith p20 f first (backTo p20 (starEach [] (envOfC "_law_ask" sg L g cdg))) (backToKw p20 (keywordEach [] (envOfC "_law_ask" sg L g cdg))))) :
    AskTo X askN "_law_ask" sg g cdg [.Assign [.Tuple [.Name "_law_answer" p1, .Name "_law_why" p2] k1 p3] (.Tuple [.Constant .none j1 p4, .Constant (.str "") j2 p5] k2 p6) p7,
      .Try [.Assign [.Name "_law_answer" p8] (.Call (.Name "_law_ask_here" p9) [] [] p10) p11]
        [.ExceptHandler (some (.Name "Missing" p12)) (some "e") (b1 :: su1) p13,
          .ExceptHandler (some (.Tuple [.Name "StandError" p14, .Name "NothingLeft" p15] k3 p16)) (some "e") [.Assign [.Name "_law_why" p17] (.Call (.Attribute (.Name "e" p18) "called" p19) [] [] p20) p21] p22] [] [] p23,
      .Return (some (.Tuple [.Name "_law_answer" p24, .Name "_law_why" p25] k4 p26)) p27] "_law_ask_here" q (TAsk X.K CM CS CN) := by
  intro f c' s H Q tl mono room act hc h
  have nd : askN.Nodup := by decide
  obtain ⟨pl, ht⟩ := ht s.heap.objs.size
  refine ⟨_, pss_cons (ps_asg (X := (inAsk X askN "_law_ask" sg g cdg s H).nox) (pe_tup (pa_cons pe_non (pa_cons pe_str pa_nil))) (pg_tup rfl (pgs_cons (pg_name (i := 1) nd rfl (.inl l1)) (pgs_cons (pg_name (i := 2) nd rfl (.inl l2)) pgs_nil))) (hs _) (hw _))
    (pss_cons (ps_two (X := (inAsk X askN "_law_ask" sg g cdg s H).nox) (i := 3) (c1 := .ref CM) (c2 := .ref CS) (c3 := .ref CN) rfl rfl nd rfl l3 ⟨g1, by decide, .inl m1⟩ ⟨g2, by decide, .inl m2⟩ ⟨g3, by decide, .inl m3⟩
      (tb := fun W Dn σ H => ∃ E : XK, σ[0]? = some (some (.ref f)) ∧ H c' = some (LamX.CodeO c' q) ∧ (∀ cls d H', E cls d H' → W cls d σ H') ∧ tl E H (fun v H1 => Dn.nx (σ.set 1 (some v)) H1))
      (ts := fun a cls d Dn σ H => σ[3]? = some (some (.ref a)) ∧ d = none ∧ ∃ C t, cls = .ref C ∧ CalK X.K C t ∧ Dn.nx (σ.set 2 (some (.str t))) H)
      (fun W pn xe tk _ => ?_) (fun a oe cls d pn hz hf => ?_))
    (pss_one (ps_ret (pe_tup (pa_cons (pe_var (i := 1) rfl (.inl l1)) (pa_cons (pe_var (i := 2) rfl (.inl l2)) pa_nil)))))), ?_⟩
  · exact ⟨fun pins s' σ H' Dn I ⟨E, a1, a2, a3, a4⟩ => (pss_one (ps_set (i := 1) nd rfl (.inl l1) (act E W pn xe _ _ tk))).run pins s' σ H' Dn I ⟨a1, a2, a3, a4⟩⟩
  · exact ⟨fun pins s' σ H' Dn I ⟨a1, a2, C, t, a3, a4, a5⟩ => (pss_one (ps_set (i := 2) nd rfl (.inl l2) (pe_called (pl := pl) hz hf room.depth (pe_var (i := 3) rfl (.inl l3)) ht))).run pins s' σ H' Dn I ⟨_, a1, rfl, a2, C, t, a3, a4, a5⟩⟩
  · have z2 : 2 ≤ sizeLine := by rw [sizeLine_eq]; omega
    refine ⟨z2, fun p0 hp0 => ⟨p0, [.non, .str ""], rfl, .inl (.inl upd_same), rfl, .non, [.str ""], rfl, .str "", [], rfl, rfl, _, rfl, (upd_ne (ne_of_none hc hp0)).trans hc, ?_, mono _ _ _ _ ?_ (h p0 hp0)⟩⟩
    · exact fun cls d H' ⟨e1, e2, e3, C, t, e4, e5, e6⟩ => ⟨e1, e2, fun a na => ⟨rfl, e3, C, t, e4, e5, _, rfl, _, rfl, z2, e6⟩⟩
    · exact fun v H' q => ⟨_, rfl, _, rfl, z2, q⟩
end DD
set_option Elab.async false
set_option linter.all false
set_option maxRecDepth 100000
set_option maxHeartbeats 4000000
namespace DD
open PySem PySem.Spec L2 PyProof.Rows
open Classical
/-! ## the world grows by the code objects of the law's own table -/
theorem codeHd_one {K : PySem.W.Frag} {c P P' : Addr} (a : PySem.W.codeHdIn K c P = true) (b : PySem.W.codeHdIn K c P' = true) : P = P' := by
  unfold PySem.W.codeHdIn at a b
  split at a
  · rename_i vs sl hk
    split at b
    · rename_i vs' sl' hk'
      rw [hk] at hk'; cases hk'
      simp only [Bool.and_eq_true] at a b
      have a1 := a.1.1.1.1.1
      have b1 := b.1.1.1.1.1
      split at a1
      · rename_i Q h11
        rw [h11] at b1
        exact (beq_iff_eq.mp a1).symm.trans (beq_iff_eq.mp b1)
      · cases a1
    · cases b
  · cases a
theorem lawTab_one {K : PySem.W.Frag} {mg : Str → Option Value} {P P' : Addr} (a : lawTab K mg P) (b : lawTab K mg P') : P = P' := by
  obtain ⟨_, f, c, o, fd, a1, a2, a3, a4, a5⟩ := a
  obtain ⟨_, f', c', o', fd', b1, b2, b3, b4, b5⟩ := b
  rw [a1] at b1; cases b1
  rw [a2] at b2; cases b2
  rw [a3] at b3; cases b3
  rw [a4] at b4; cases b4
  exact codeHd_one a5 b5
section
variable {c : Ct} {w : Wd} {h : Hd} {H H1 : Hp} {P : Addr}
theorem SR.tabs (s : SR c w h H) (l : lawTab c.K c.mg P) : LamX.Tabs [(P, lamQ)] H := fun p hp => by
  have e : p = (P, lamQ) := by simpa using hp
  subst e
  obtain ⟨⟨ps, e1, e2, e3⟩, _⟩ := s.tab.tb P l
  exact ⟨ps, e1, e2, fun pos cv k => let ⟨b, q1, q2⟩ := e3 pos cv k; ⟨b, q1, s.F _ _ q2⟩⟩
/-- what lies at a cell -/
theorem SR.cellO (s : SR c w h H) {r : Nat} {a : Addr} (e : w.φ r = some a) : ∃ o, H a = some o ∧ plainO o := by
  obtain ⟨lt, _⟩ := s.dom r a e
  have q : h[r]? = some h[r] := List.getElem?_eq_getElem lt
  by_cases g : h[r] = .gone
  · rw [g] at q
    obtain ⟨o, eo, p⟩ := s.ng r a q e
    exact ⟨o, s.F _ _ eo, p⟩
  obtain ⟨b, q1, q2, q3, q4⟩ := s.cell r _ q g
  rw [e] at q1; cases q1
  obtain ⟨o, eo⟩ := q4.some g
  exact ⟨o, eo, q4.plain g eo⟩
noncomputable def Wd.grow (w : Wd) (H1 : Hp) : Wd := { w with F := fun b => match w.F b with
  | some o => some o
  | none => if H1 b = some (LamX.CodeO b lamQ) then some (LamX.CodeO b lamQ) else none }
theorem grow_some {b : Addr} {o : HO} (e : (w.grow H1).F b = some o) : w.F b = some o ∨ w.F b = none ∧ H1 b = some (LamX.CodeO b lamQ) ∧ o = LamX.CodeO b lamQ := by
  have e' : (match w.F b with | some o => some o | none => if H1 b = some (LamX.CodeO b lamQ) then some (LamX.CodeO b lamQ) else none) = some o := e
  cases q : w.F b with
  | some o' => rw [q] at e'; exact .inl e'
  | none =>
    rw [q] at e'
    by_cases k : H1 b = some (LamX.CodeO b lamQ)
    · have e2 := (if_pos k).symm.trans e'
      cases e2
      exact .inr ⟨rfl, k, rfl⟩
    · have e2 := (if_neg k).symm.trans e'
      cases e2
theorem grow_old {b : Addr} {o : HO} (e : w.F b = some o) : (w.grow H1).F b = some o := by
  show (match w.F b with | some o => some o | none => if H1 b = some (LamX.CodeO b lamQ) then some (LamX.CodeO b lamQ) else none) = some o
  rw [e]
theorem grow_new {b : Addr} (e : w.F b = none) (k : H1 b = some (LamX.CodeO b lamQ)) : (w.grow H1).F b = some (LamX.CodeO b lamQ) := by
  show (match w.F b with | some o => some o | none => if H1 b = some (LamX.CodeO b lamQ) then some (LamX.CodeO b lamQ) else none) = _
  rw [e]; exact if_pos k
theorem grow_none {b : Addr} (e : w.F b = none) (k : H1 b ≠ some (LamX.CodeO b lamQ)) : (w.grow H1).F b = none := by
  show (match w.F b with | some o => some o | none => if H1 b = some (LamX.CodeO b lamQ) then some (LamX.CodeO b lamQ) else none) = none
  rw [e]; exact if_neg k
theorem SR.grow (s : SR c w h H) (l : lawTab c.K c.mg P) (eN : LamX.ExtN H H1) (T1 : LamX.Tabs [(P, lamQ)] H1) : Le w (w.grow H1) ∧ SR c (w.grow H1) h H1 := by
  have le : Le w (w.grow H1) := ⟨⟨fun b o e => grow_old e, fun _ _ q => q⟩, rfl⟩
  have keepF : ∀ b o, w.F b = some o → H1 b = some o := fun b o e => eN b o (s.F b o e) (s.tab.nF b o e)
  have keepP : ∀ b o, w.P b = some o → H1 b = some o := fun b o e => eN b o (s.P b o e) (s.tab.nP b o e).1.1
  refine ⟨le, ⟨fun b o e => ?_, keepP, fun b o e => ⟨?_, (s.pin b o e).2⟩, fun r z q g => ?_, s.inj, fun r a e => ?_, ⟨fun P' l' => ?_, fun b o e => ?_, s.tab.nP⟩, fun r a q e => let ⟨o, q1, p⟩ := s.ng r a q e; ⟨o, le.F _ _ q1, p⟩⟩⟩
  · rcases grow_some e with e | ⟨_, k, e⟩
    · exact keepF b o e
    · rw [e]; exact k
  · refine grow_none (s.pin b o e).1 fun k => ?_
    rw [keepP b o e] at k
    cases k
    exact (s.tab.nP b _ e).1.2 _ _ rfl
  · obtain ⟨a, q1, q2, q3, q4⟩ := s.cell r z q g
    obtain ⟨o, eo⟩ := q4.some g
    have pl := q4.plain g eo
    have e1 := eN a o eo pl.1
    refine ⟨a, q1, grow_none q2 fun k => ?_, q3, q4.le le (e1.trans eo.symm)⟩
    rw [e1] at k
    cases k
    exact pl.2 _ _ rfl
  · obtain ⟨o, eo, pl⟩ := s.cellO e
    exact ⟨(s.dom r a e).1, o, eN a o eo pl.1⟩
  · cases lawTab_one l l'
    obtain ⟨ps, e1, e2, e3⟩ := T1 (P, lamQ) (by simp)
    obtain ⟨_, q1, q2, q3⟩ := s.tab.tb P l
    refine ⟨⟨ps, e1, e2, fun pos cv k => ?_⟩, grow_none q1 fun k => ?_, q2, q3⟩
    · obtain ⟨b, r1, r2⟩ := e3 pos cv k
      refine ⟨b, r1, ?_⟩
      cases q : w.F b with
      | none => exact grow_new q r2
      | some o =>
        have := keepF b o q
        rw [r2] at this; cases this
        exact grow_old q
    · have k' : H1 P = some (LamX.CodeO P lamQ) := k
      have e1' : H1 P = some (.tbl ps) := e1
      rw [k'] at e1'
      exact LamX.codeO_ne ps (Option.some.inj e1')
  · rcases grow_some e with e | ⟨_, k, e⟩
    · exact s.tab.nF b o e
    · intro ps z
      rw [e] at z
      exact LamX.codeO_ne ps z
end
/-! ## _law_ask(lambda: ..) -/
structure AskK (K : PySem.W.Frag) (mg : Str → Option Value) (cl : List (Str × Str)) (CM CS CN : Addr) : Prop where
  one : ∀ x t C, cl.lookup x = some t → mg x = some (.ref C) → PySem.W.exmOne K (.ref C) (.ref CM) = some false ∧ PySem.W.exmAny K (.ref C) [.ref CS, .ref CN] = some true ∧ CalK K C t
structure AskAt (K : PySem.W.Frag) (mg : Str → Option Value) (st : Stmt) (g : Addr) (fd : FuncData) (cl : List (Str × Str)) : Prop where
  F : DefAt K mg "_law_ask" st ["_law_ask_here"] g fd
  gives : ∀ (X : Cx) (q : Str) (cdg : Value), X.mg = mg → X.K = K → ∃ CM CS CN, AskTo X askN "_law_ask" (defScope st) g cdg (defBody st) "_law_ask_here" q (TAsk K CM CS CN) ∧ AskK K mg cl CM CS CN
  sc : FnScope askN ["_law_ask_here"] (defScope st)
  v : Vis (defScope st) "_law_ask_here"
def askR (cl : List (Str × Str)) : Res D → Res D
  | .ok d h => .ok (.tup [d, .str ""]) h
  | .exc x h => match cl.lookup x.c, x.ns with
    | some t, [] => .ok (.tup [.non, .str t]) h
    | _, _ => .bad
  | .bad => .bad
def mAsk (cl : List (Str × Str)) (mb : ME) : ME := fun ρ h => askR cl (mb ρ h)
/-- the law's own code and table -/
def LawC (K : PySem.W.Frag) (mg : Str → Option Value) (base : Heap) (cdv : Value) : Prop := ∃ c P, lawTab K mg P ∧ cdv = .ref c ∧ LamX.TabB base mg c P
theorem tE_mono {c : Ct} {W : WX} {m : ME} {σ : L2.St} {H : Hp} {Q Q' : VK} (i : ∀ v H', Q v H' → Q' v H') (q : tE c W m σ H Q) : tE c W m σ H Q' := tP.mono q i
theorem e_ask {X : Cx} {W : WX} {st : Stmt} {g : Addr} {fd : FuncData} {cl : List (Str × Str)} {params : Arguments} {body : Expr} {scope : Scope} {p lpos pos : Pos} {mb : ME} {k : Nat} (A : AskAt X.K X.mg st g fd cl) (LC : LawC X.K X.mg X.base X.env.code)
    (runs : ∀ (A : Around) (outer : List PySem.Env) (s : Shared) (H : Hp) (E : XK) (f c' : Addr), Room k (A.deeper (LamX.lamEnv X scope s.heap.objs.size f c')) → SE (LamX.lamCx X A outer s H E scope f c') (fun cls d _ H => E cls d H) body mb)
    (hr : Room (k + 2) X.A) (L : LamX.LamS X.env.scope scope) (hq : X.env.qual ++ "<lambda>" = lamQ := by rfl) (hdef : defaultsOf params X.env = ([], []) := by rfl)
    (bind0 : ∀ (q : Str) (cl : List (Str × Addr)) (pm cv ctv : Value), bindArgs (PySem.W.kla_fn "<lambda>" q params body scope cl pm cv ctv) ⟨[], []⟩ = pure [] := by intros; rfl) (hg : Gl X "_law_ask" := by rfl) :
    SE X W (.Call (.Name "_law_ask" p) [.Lambda params body scope lpos] [] pos) (mAsk cl mb) := by
  obtain ⟨oc, od, kV, doc, pm, an, cdv, ct, osl, ef, lk, hcd⟩ := A.F.F.ex
  obtain ⟨c, P, lt, hcode, TB⟩ := LC
  obtain ⟨CM, CS, CN, hG, KA⟩ := A.gives X (X.env.qual ++ "<lambda>") cdv rfl rfl
  have hb := A.F.b
  subst ef
  refine PE.imp (pe_asked (T := [(P, X.env.qual ++ "<lambda>")]) (t := fun E => tE (Cx.ct X) (fun cls d _ H => E cls d H) mb) hg A.F.m A.F.F.kp lk hcd hb A.sc rfl A.v hG TB hcode (by simp) (fun p hp _ => by
    rw [List.mem_singleton.mp hp]) hr L hdef bind0 runs (fun E σ H Q Q' i q => tE_mono i q)) fun σ H Q ⟨w, ρ, h, e, s, q⟩ => ?_
  rw [hq]
  refine ⟨s.tabs lt, fun H1 eN T1 p0 hp0 => ?_⟩
  obtain ⟨l1, s1⟩ := s.grow (c := Cx.ct X) lt eN T1
  refine ⟨_, ρ, h, e.le l1, s1.laid hp0 _, ?_⟩
  have q1 : Post (RV (Cx.ct X)) (Cx.ct X) w W σ (askR cl (mb ρ h)) Q := q
  cases r : mb ρ h with
  | bad => rw [r] at q1; exact q1
  | ok d h1 =>
    rw [r] at q1
    intro v w2 H2 l2 rv s2 p hp
    obtain ⟨w3, l3, s3, r3⟩ := new_tup (ds := [d, .str ""]) (vs := [v, .str ""]) s2 (.cons rv (.one (by simp only [VR]))) hp
    exact q1 _ w3 _ ((l1.trans l2).trans l3) r3 s3
  | exc x h1 =>
    rw [r] at q1
    intro cls dx w2 H2 l2 s2 xr
    simp only [askR] at q1
    split at q1
    · rename_i t e1 e2
      obtain ⟨C, x1, x2, x3⟩ := xr
      have ed : dx = none := by
        rcases x3 with ⟨_, z⟩ | ⟨n, _⟩
        · exact z
        · exact absurd e2 n
      obtain ⟨k1, k2, k3⟩ := KA.one x.c t C e1 x1
      subst x2
      refine ⟨k1, k2, ed, C, t, rfl, k3, fun p hp => ?_⟩
      obtain ⟨w3, l3, s3, r3⟩ := new_tup (ds := [.non, .str t]) (vs := [.non, .str t]) s2 (.cons (by simp only [VR]) (.one (by simp only [VR]))) hp
      exact q1 _ w3 _ ((l1.trans l2).trans l3) r3 s3
    · exact q1.elim
end DD
set_option Elab.async false
set_option linter.all false
set_option maxRecDepth 100000
set_option maxHeartbeats 4000000
namespace DD
open PySem PySem.Spec L2 PyProof.Rows
/-! ## the law's def, where it holds lambdas -/
theorem fn_okT {P : Program} {w : World} {K : PySem.W.Frag} {mg : Str → Option Value} {base : Heap} {x : Str} {st : Stmt} {f : Addr} {fd : FuncData} {N ps : List Str} {k : Nat} {b : MS} (F : Fun K x x st f fd) (LC : LawC K mg base fd.code) (S : FnScope N ps (defScope st))
    (hbody : ∀ (cdv : Value) (A : Around) (outer : List PySem.Env) (s : Shared) (H : Hp) (E : XK), LawC K mg base cdv → Room k (A.deeper (PyProof.Rows.envOfC x (defScope st) s.heap.objs.size f cdv)) →
      SSs (cxOf (L2.CX P w) P w K mg base N x (defScope st) f cdv A outer s H E) (fun cls d _ H => E cls d H) (defBody st) b) : FnOk P w K mg base (L2.CX P w) (k + 1) f fd ps (spM ⟨K, mg⟩ ps.length (runB N.length b)) := by
  have G : ∀ (cdv : Value), fd.code = cdv → LawC K mg base cdv := fun cdv e => e ▸ LC
  obtain ⟨oc, od, kV, doc, pm, an, cdv, ct, osl, ef, lk, hcd⟩ := F.ex
  subst ef
  refine fn_of lk hcd S (fun vs H Q E ⟨w, ds, h, r, s, hl, p⟩ => by rw [← r.len]; exact hl) fun A outer s H vs Q E hr ⟨w', ds, h, r, sr, hl, p⟩ => ?_
  refine ⟨_, hbody cdv A outer s H E (G cdv rfl) hr, w', startD N.length ds, h, ER.start r, sr, ?_⟩
  unfold runB at p
  cases q : b (startD N.length ds) h with
  | nx ρ h1 => rw [q] at p; exact fun σ w2 H2 l e s => p .non w2 H2 l (by simp only [VR]) s
  | rt d h1 => rw [q] at p; exact p
  | bk ρ h1 => rw [q] at p; exact p.elim
  | ct ρ h1 => rw [q] at p; exact p.elim
  | exc x ρ h1 => rw [q] at p; exact fun cls dx σ w2 H2 l e s x => p cls dx w2 H2 l s x
  | bad => rw [q] at p; exact p
def spT (K : PySem.W.Frag) (P : Addr) : Sp := fun vs H Q _ => ∃ (a : Addr) (ns : List Int), vs = [.ref a] ∧ SqL K H a (ns.map V.int) ∧ ns.length ≤ 63 ∧ H P = some (.tbl #[]) ∧ ∀ H', Q (.bl true) H'
theorem law_endT {P : Program} {w : World} {K : PySem.W.Frag} {mg : Str → Option Value} {base : Heap} {k : Nat} {f : Addr} {fd : FuncData} {ps : List Str} {m : List D → Hd → Res D} {T : Addr} (F : FnOk P w K mg base (L2.CX P w) k f fd ps (spM ⟨K, mg⟩ 1 m)) (lt : lawTab K mg T)
    (main : ∀ ns : List Int, ns.length ≤ 63 → ∃ h', m [.rol (ns.map .int)] [] = .ok (.bl true) h') : FnOk P w K mg base (L2.CX P w) k f fd ps (spT K T) :=
  F.imp fun vs H Q E ⟨a, ns, e, hq, hl, hO, q⟩ => by
    subst e
    obtain ⟨h', eh⟩ := main ns hl
    refine ⟨_, [.rol (ns.map .int)], [], .one ?_, sr_first fun P l => by rw [lawTab_one l lt]; exact hO, rfl, ?_⟩
    · simp only [VR]; exact ⟨a, ns.map V.int, rfl, SqL_unT hq, VRs_ints ns⟩
    · rw [eh]
      intro v w' H' l r s
      simp only [VR] at r
      subst r
      exact q H'
theorem law_at {l : PySem.W.OpenLaw} {w : World} {K : PySem.W.Frag} {mg : Str → Option Value} {h : Heap} {k : Nat} {fa c T : Addr} {fd : FuncData} {o : Obj} {x : Str} {m : List D → Hd → Res D} (KX : K.In h) (own : LamX.OwnTab K fa h) (on : lamOn = true) (hm : mg "law" = some (.ref fa)) (lk : K.lookup fa = some o) (hd : o.data = .func fd) (hc : fd.code = .ref c)
    (hh : PySem.W.codeHdIn K c T = true) (nT : K.lookup T = none) (nG : mainGlobals ≠ T) (hb : ∀ (s : Shared) (v : Value), BindsTo s fd ⟨[v], []⟩ [(x, v)]) (F : ∀ base : Heap, K.In base → base.Ns mainGlobals mg → LawC K mg base fd.code → FnOk l.prog w K mg base (L2.CX l.prog w) k fa fd [x] (spM ⟨K, mg⟩ 1 m))
    (main : ∀ ns : List Int, ns.length ≤ 63 → ∃ h', m [.rol (ns.map .int)] [] = .ok (.bl true) h') : LamX.LawAtS l w K (L2.CX l.prog w) k 63 x mg fa h := by
  have lt : lawTab K mg T := ⟨on, fa, c, o, fd, hm, lk, hd, hc, hh⟩
  refine ⟨fd, [(c, T)], spT K T, fun p hp => ?_, fun p hp => ?_, fun p hp => ?_, hb, fun H a ns hl _ hO hS => ⟨a, ns, rfl, hS, hl, hO (c, T) (by simp), fun _ => rfl⟩, fun base kb nb tb => ?_⟩
  · rw [List.mem_singleton.mp hp]
    have hh2 := hh
    unfold PySem.W.codeHdIn at hh2
    split at hh2
    · rename_i dd vs sl e
      simp only [Bool.and_eq_true] at hh2
      have a1 := hh2.1.1.1.1.1
      split at a1
      · rename_i Q h11
        exact own c T o fd _ dd vs sl lk hd hc e (by rw [h11, beq_iff_eq.mp a1])
      · cases a1
    · cases hh2
  · rw [List.mem_singleton.mp hp]; exact nT
  · rw [List.mem_singleton.mp hp]; exact PySem.W.codeHd_of_K KX hh
  · exact law_endT (F base kb nb ⟨c, T, lt, hc, tb (c, T) (by simp)⟩) lt main
theorem walkT {l : PySem.W.OpenLaw} {q : Program} {loose : List Str} {XP : (Str → Option Value) → Heap → Prop} {YP : World → Heap → Prop} {d : DefRec} {K : Params → PySem.W.Frag} {k : Nat} {x : Str} (hn : l.most = some 63) (hdf : d.params.defaults = []) (hr : Room k callerA)
    (hrec : ((recsOf q).any fun e => e.name == d.name) = true) (hY : ∀ (w : World) (h : Heap), YP w h → (K w.params).In h)
    (F : ∀ (w : World) (mg : Str → Option Value) (fa : Addr) (h : Heap), (K w.params).In h → h.Ns mainGlobals mg → mg d.name = some (.ref fa) → LamX.OwnTab (K w.params) fa h → LamX.LawAtS l w (K w.params) (L2.CX l.prog w) k 63 x mg fa h) :
    PySem.W.WalkO q loose XP YP l.row.toRowW d [] (fun f vs => PySem.call f vs) :=
  LamX.walk_ofOwn (n := 63) (CX := fun w => L2.CX l.prog w) hn (by decide) hdf hr hrec hY (fun w mg fa h _ kx ns hm ot => F w mg fa h kx ns hm ot) fun _ _ _ _ _ z => by
    obtain ⟨_, _, _, _, _, _, _, _, _, _, _, _, z⟩ := z
    exact z
end DD
set_option Elab.async false
set_option linter.all false
set_option maxRecDepth 100000
set_option maxHeartbeats 4000000
namespace DD
open PySem PySem.Spec L2 PyProof.Rows
/-! ## the facts of the classes -/
def clsMeth (s : Stmt) (j : Nat) : Stmt := match s with
  | .ClassDef _ _ _ b _ _ _ _ _ _ _ => b.getD j (.Pass ⟨0, 0, 0, 0⟩)
  | _ => .Pass ⟨0, 0, 0, 0⟩
section
variable {K : PySem.W.Frag} {mg : Str → Option Value}
theorem say_mk {st : Stmt} {f : Addr} {t nm qual : Str} {oc kV doc pm cdv ct : Value} {od an : Option Addr} {osl : Array (Option Value)} (lk : K.lookup f = some ⟨oc, od, .func (PySem.W.fnOf nm qual (defArgs st) (defBody st) (defScope st) .none kV doc pm an cdv ct), osl⟩)
    (hcd : PySem.W.codeIn K cdv qual = true) (kp : PySem.W.keepIn K (.ref f) = true) (fn : PySem.W.isFn K (.ref f) = true) (hb : ∃ j p p', defBody st = [.Return (some (.Constant (.str t) j p)) p']) (sc : FnScope ["self"] ["self"] (defScope st))
    (bd : ∀ us : List Value, us.length = 1 → bindArgs (PySem.W.fnOf nm qual (defArgs st) (defBody st) (defScope st) .none kV doc pm an cdv ct) ⟨us, []⟩ = pure ((["self"] : List Str).zip us)) : SayK K f t := by
  obtain ⟨j, p, p', e⟩ := hb
  rw [e] at lk bd
  exact ⟨⟨nm, qual, defArgs st, j, p, p', defScope st, .none, kV, doc, pm, cdv, ct, oc, an, od, osl, lk, hcd, sc, .all bd⟩, kp, fn⟩
theorem AskK.nil {CM CS CN : Addr} : AskK K mg [] CM CS CN := ⟨fun _ _ _ h _ => by cases h⟩
theorem AskK.cons {x t : Str} {C CM CS CN : Addr} {cl : List (Str × Str)} (m : mg x = some (.ref C)) (x1 : PySem.W.exmOne K (.ref C) (.ref CM) = some false) (x2 : PySem.W.exmAny K (.ref C) [.ref CS, .ref CN] = some true) (k : CalK K C t) (r : AskK K mg cl CM CS CN) :
    AskK K mg ((x, t) :: cl) CM CS CN := ⟨fun y u D h hm => by
  rw [List.lookup_cons] at h
  split at h
  · rename_i e
    cases h
    rw [beq_iff_eq.mp e, m] at hm
    cases hm
    exact ⟨x1, x2, k⟩
  · exact r.one y u D h hm⟩
end
@[simp] theorem mAsk_k (cl : List (Str × Str)) (mb : ME) (ρ : Env) (h : Hd) : mAsk cl mb ρ h = askR cl (mb ρ h) := rfl
@[simp] theorem askR_ok (cl : List (Str × Str)) (d : D) (h : Hd) : askR cl (.ok d h) = .ok (.tup [d, .str ""]) h := rfl
theorem askR_exc {cl : List (Str × Str)} {x t : Str} {h : Hd} (e : cl.lookup x = some t) : askR cl (.exc ⟨x, [], []⟩ h) = .ok (.tup [.non, .str t]) h := by
  unfold askR
  simp only [e]
@[simp] theorem mRaise_k (x : Str) (ρ : Env) (h : Hd) : mRaise x ρ h = .exc ⟨x, [], []⟩ ρ h := rfl
end DD
set_option Elab.async false
set_option linter.all false
set_option maxRecDepth 100000
set_option maxHeartbeats 4000000
namespace DD
open PySem PySem.Spec L2 RZ PyProof.Rows
/-! ## methods of texts -/
theorem isStr_ty {c : Ct} : TyS c "str" isStr := fun {w h H x v} s r e => by
  cases x with
  | str z => simp only [VR] at r; subst r; trivial
  | _ => cases e
def partF : D → List D → Hd → Res O
  | .str a, [.str b], h => if b.length ≠ 0 ∧ a.length ≤ 100000 then .ok (.val (.tup [.str (Txt.partition a b).1, .str (Txt.partition a b).2.1, .str (Txt.partition a b).2.2])) h else .bad
  | _, _, _ => .bad
def startF : D → List D → Hd → Res O
  | .str a, [.str b], h => .ok (.val (.bl (Txt.startswith a b))) h
  | _, _, _ => .bad
def endF : D → List D → Hd → Res O
  | .str a, [.str b], h => .ok (.val (.bl (Txt.endswith a b))) h
  | _, _, _ => .bad
theorem s_part {c : Ct} : CallM c (fun x xs H Q => ∃ a b, x = .str a ∧ xs = [.str b] ∧ (b.length == 0) = false ∧ a.length ≤ sizeLine ∧
    ∀ p, H p = none → Q (.ref p) (upd H p (.tup [.str (Txt.partition a b).1, .str (Txt.partition a b).2.1, .str (Txt.partition a b).2.2]))) partF := fun {w W σ h H v vs x ds Q} s rx rs p => by
  unfold partF at p
  split at p
  · rename_i a b
    simp only [VR] at rx; subst rx
    obtain ⟨u, rfl, ru⟩ := rs.one_inv'
    simp only [VR] at ru; subst ru
    split at p
    · rename_i hz
      refine ⟨a, b, rfl, rfl, by simpa using hz.1, by rw [sizeLine_eq]; omega, fun q hq => ?_⟩
      obtain ⟨w2, l2, s2, r2⟩ := new_tup (ds := [.str (Txt.partition a b).1, .str (Txt.partition a b).2.1, .str (Txt.partition a b).2.2]) (vs := [.str (Txt.partition a b).1, .str (Txt.partition a b).2.1, .str (Txt.partition a b).2.2]) s (.cons (by simp only [VR]) (.cons (by simp only [VR]) (.one (by simp only [VR])))) hq
      exact p _ w2 _ l2 r2 s2
    · exact p.elim
  · exact p.elim
theorem s_start {c : Ct} : CallM c (fun x xs H Q => ∃ a b, x = .str a ∧ xs = [.str b] ∧ Q (.bl (Txt.startswith a b)) H) startF := fun {w W σ h H v vs x ds Q} s rx rs p => by
  unfold startF at p
  split at p
  · rename_i a b
    simp only [VR] at rx; subst rx
    obtain ⟨u, rfl, ru⟩ := rs.one_inv'
    simp only [VR] at ru; subst ru
    exact ⟨a, b, rfl, rfl, p.ret (by simp only [RO, VR]) s⟩
  · exact p.elim
theorem s_end {c : Ct} : CallM c (fun x xs H Q => ∃ a b, x = .str a ∧ xs = [.str b] ∧ Q (.bl (Txt.endswith a b)) H) endF := fun {w W σ h H v vs x ds Q} s rx rs p => by
  unfold endF at p
  split at p
  · rename_i a b
    simp only [VR] at rx; subst rx
    obtain ⟨u, rfl, ru⟩ := rs.one_inv'
    simp only [VR] at ru; subst ru
    exact ⟨a, b, rfl, rfl, p.ret (by simp only [RO, VR]) s⟩
  · exact p.elim
/-! ## str(an int), int(a text) -/
def itoS (i : Int) : Str := Str.ofString (toString i)
def strF : List D → Hd → Res O
  | [.int i], h => if i.natAbs.log2 < 1920 then .ok (.val (.str (itoS i))) h else .bad
  | _, _ => .bad
theorem s_str {c : Ct} : CallS c (fun xs H Q => ∃ i : Int, xs = [.int i] ∧ i.natAbs.log2 < 1920 ∧ Q (.str (toString i)) H) strF := fun {w W σ h H vs ds Q} s r p => by
  unfold strF at p
  split at p
  · rename_i i
    obtain ⟨u, rfl, ru⟩ := r.one_inv'
    simp only [VR] at ru; subst ru
    split at p
    · rename_i hz
      exact ⟨i, rfl, hz, p.ret (by simp only [RO, VR, itoS]) s⟩
    · exact p.elim
  · exact p.elim
def intTF : List D → Hd → Res O
  | [.int i], h => .ok (.val (.int i)) h
  | [.bl b], h => .ok (.val (.int (if b then 1 else 0))) h
  | [.str a], h => match PySem.intText? a with
    | some n => if a.length ≤ 640 then .ok (.val (.int n)) h else .bad
    | none => .bad
  | _, _ => .bad
theorem s_intT {c : Ct} : CallS c (fun xs H Q => ((∃ i, xs = [.int i] ∧ Q (.int i) H) ∨ ∃ k, xs = [.bl k] ∧ Q (.int (if k then 1 else 0)) H) ∨ ∃ a n, xs = [.str a] ∧ PySem.intText? a = some n ∧ a.length ≤ 640 ∧ Q (.int n) H) intTF := fun {w W σ h H vs ds Q} s r p => by
  unfold intTF at p
  split at p
  · obtain ⟨u, rfl, ru⟩ := r.one_inv'
    simp only [VR] at ru; subst ru
    exact .inl (.inl ⟨_, rfl, p.ret (by simp only [RO, VR]) s⟩)
  · obtain ⟨u, rfl, ru⟩ := r.one_inv'
    simp only [VR] at ru; subst ru
    exact .inl (.inr ⟨_, rfl, p.ret (by simp only [RO, VR]) s⟩)
  · rename_i a
    obtain ⟨u, rfl, ru⟩ := r.one_inv'
    simp only [VR] at ru; subst ru
    split at p
    · rename_i n en
      split at p
      · rename_i hz
        exact .inr ⟨a, n, rfl, en, hz, p.ret (by simp only [RO, VR]) s⟩
      · exact p.elim
    · exact p.elim
  · exact p.elim
/-! ## f"..{x}.." -/
def fmtF (d : D) (h : Hd) : Res D := match d with
  | .str y => if y.length ≤ sizeLine then .ok (.str y) h else .bad
  | .int i => if i.natAbs.log2 < 1920 then .ok (.str (itoS i)) h else .bad
  | _ => .bad
def mFmt (m : ME) : ME := fun ρ h => (m ρ h).bind fmtF
def mJs : List ME → Str → ME
  | [], acc => fun _ h => .ok (.str acc) h
  | m :: ms, acc => fun ρ h => (m ρ h).bind fun d h => match d with
    | .str y => if (acc ++ y).length ≤ sizeLine then mJs ms (acc ++ y) ρ h else .bad
    | _ => .bad
def SJ (X : Cx) (W : WX) (es : List Expr) (ms : List ME) : Prop := PJ X es (ms.map (tE (Cx.ct X) W))
section
variable {X : Cx} {W : WX} {e v1 v2 : Expr} {es rest : List Expr} {m : ME} {ms : List ME} {pos : Pos}
theorem e_fmt (he : SE X W e m) : SE X W (.FormattedValue e (-1) none pos) (mFmt m) := PE.imp (pe_fmt he) fun σ H Q q => by
  refine (tP.bind q).mono fun v H1 ⟨w1, ρ, h1, d, e1, s1, r1, p1⟩ => ?_
  unfold fmtF at p1
  split at p1
  · rename_i y
    simp only [VR] at r1; subst r1
    split at p1
    · rename_i hz
      exact .inl ⟨y, rfl, hz, p1.ret (by simp only [VR]) s1⟩
    · exact p1.elim
  · rename_i i
    simp only [VR] at r1; subst r1
    split at p1
    · rename_i hz
      exact .inr ⟨i, rfl, hz, p1.ret (by simp only [VR, itoS]) s1⟩
    · exact p1.elim
  · exact p1.elim
theorem sj_nil : SJ X W [] [] := .nil
theorem sj_cons (h : SE X W e m) (r : SJ X W es ms) : SJ X W (e :: es) (m :: ms) := .cons h r
theorem js_rd {c : Ct} : ∀ {ms : List ME} {acc : Str} {σ : L2.St} {H : Hp} {Q : VK}, tE c W (mJs ms acc) σ H Q → tJs (ms.map (tE c W)) acc σ H fun out H1 => Q (.str out) H1
  | [], acc, σ, H, Q, ⟨w, ρ, h, e, s, p⟩ => p.ret (by simp only [VR]) s
  | m :: ms, acc, σ, H, Q, q => by
    refine (tP.bind (k := fun ρ d h => match d with
      | .str y => if (acc ++ y).length ≤ sizeLine then mJs ms (acc ++ y) ρ h else .bad
      | _ => .bad) q).mono fun v H1 ⟨w1, ρ, h1, d, e1, s1, r1, p1⟩ => ?_
    split at p1
    · rename_i y
      simp only [VR] at r1; subst r1
      split at p1
      · rename_i hz
        exact ⟨y, rfl, hz, js_rd ⟨w1, ρ, h1, e1, s1, p1⟩⟩
      · exact p1.elim
    · exact p1.elim
theorem e_js (h : SJ X W (v1 :: v2 :: rest) ms) : SE X W (.JoinedStr (v1 :: v2 :: rest) pos) (mJs ms Str.empty) := PE.imp (pe_joined h) fun σ H Q q => js_rd q
end
/-! ## x += e -/
def addP : D → D → Option D
  | .int i, .int j => some (.int (i + j))
  | .str a, .str b => if a.length ≤ 100000 ∧ b.length ≤ 100000 then some (.str (a ++ b)) else none
  | _, _ => none
def ipA : TIp := fun x y H Q => ipI (fun i j => i + j) x y H Q ∨ ∃ a b : Str, x = .str a ∧ y = .str b ∧ a.length ≤ 100000 ∧ b.length ≤ 100000 ∧ Q (.str (a ++ b)) H
theorem ip_addA {X : Cx} : PIp X .Add ipA := by
  intro pins s σ H x y v u Q I r1 r2 h
  rcases h with h | ⟨a, b, e1, e2, za, zb, q⟩
  · exact ip_add pins s σ H x y v u Q I r1 r2 h
  · subst e1 e2
    obtain ⟨t, rfl⟩ := r1
    obtain ⟨t', rfl⟩ := r2
    exact iadd_str (fun t' tk => ⟨.str (a ++ b), H, I.tok _, ⟨_, rfl⟩, q⟩) (by rw [sizeLine_eq]; omega)
def augK (i : Nat) (x d : D) (ρ : Env) (h : Hd) : Fl := match addP x d with
  | some z => .nx (ρ.set i (some z)) h
  | none => .bad
def mAug (i : Nat) (m : ME) : MS := fun ρ h => match ρ[i]? with
  | some (some x) => liftR m (augK i x) ρ h
  | _ => .bad
theorem addP_ok {c : Ct} {w : Wd} {x y z : D} {vx vy : V} {H : Hp} {Q : VK} (e : addP x y = some z) (rx : VR c w x vx) (ry : VR c w y vy) (q : ∀ vz, VR c w z vz → Q vz H) : ipA vx vy H Q := by
  unfold addP at e
  split at e
  · cases e
    simp only [VR] at rx ry; subst rx ry
    exact .inl ⟨_, _, rfl, rfl, q _ (by simp only [VR])⟩
  · split at e
    · rename_i hz
      cases e
      simp only [VR] at rx ry; subst rx ry
      exact .inr ⟨_, _, rfl, rfl, hz.1, hz.2, q _ (by simp only [VR])⟩
    · cases e
  · cases e
section
variable {X : Cx} {W : WX} {o i e : Expr} {mo mi me : ME} {pos tpos : Pos}
theorem s_aug (j : Nat) {x : Str} {pos' : Pos} (he : SE X W e me) (hN : X.N.Nodup) (hi : X.N[j]? = some x := by rfl) (hx : Loc X.env.scope x := by first | exact Or.inl rfl | exact Or.inr rfl)
    (hf : X.fn x = true ∨ X.env.scope.names.lookup x = some .local := by first | exact .inl rfl | exact .inr rfl | assumption) : SS X W (.AugAssign (.Name x pos') .Add e pos) (mAug j me) := PS.imp (ps_aug hN hi hx he ip_addA hf) fun Dn σ H ⟨w, ρ, h, e, s, p⟩ => by
  unfold mAug at p
  split at p
  · rename_i dx ex
    obtain ⟨vx, e1, r1⟩ := e.2 j dx ex
    refine ⟨vx, e1, w, ρ, h, e, s, ?_⟩
    unfold liftR at p
    cases q : me ρ h with
    | ok d h1 =>
      rw [q] at p
      simp only [augK] at p
      split at p
      · rename_i z ez
        exact fun v w1 H1 l r s1 => addP_ok ez (r1.le l) r fun vz rz => (PostS.le l p).nx ((e.le l).set j rz) s1
      · exact p.elim
    | exc x h1 => rw [q] at p; exact fun cls dx w1 H1 l s1 x1 => p cls dx σ w1 H1 l (e.le l) s1 x1
    | bad => rw [q] at p; exact p
  · exact p.elim
/-! ## xs[-1] += e -/
def rGetN : V → V → Hp → VK → Prop := fun o i H Q => ∃ p xs k v, o = .ref p ∧ i = .int k ∧ k < 0 ∧ H p = some (.lst xs) ∧ atI xs k = some v ∧ Q v H
theorem get_neg : PGet X rGetN := by
  intro pins s σ H o i ov iv Q I ro ri h
  obtain ⟨p, xs, k, z, rfl, rfl, h0, hq, he, q⟩ := h
  cases ro
  obtain ⟨t, rfl⟩ := ri
  obtain ⟨its, r, pl, hz⟩ := I.list (SqL.of hq)
  obtain ⟨j, h1, h2, h3, h4, h5⟩ := atI_get he
  obtain ⟨w, ew, rw'⟩ := r.get h2
  have hl := r.length
  have hn := line63
  have hj : (k + (its.toArray.size : Int)).toNat = j := by
    rw [seqIndex_neg (by omega) h4] at h1
    rw [List.size_toArray, ← hl]
    exact Option.some.inj h1
  exact wpAny_getItem_list_neg pl.isList h0 (by rw [List.size_toArray]; omega) (by omega) (by rw [hj]; simpa using ew) ⟨z, H, I, rw', q⟩
def negF (h : Hd) : D → D → Option D
  | .ref r, .int k => if k < 0 then (match h[r]? with
    | some (.lst xs) => atI xs k
    | _ => none) else none
  | _, _ => none
def putF (o i x y : D) (h : Hd) : Res Unit := match addP x y with
  | some z => (match setF o i z h with
    | some h' => .ok () h'
    | none => .bad)
  | none => .bad
def augSF (mo mi me : ME) : Env → Hd → Res Unit := fun ρ h => (mo ρ h).bind fun o h => (mi ρ h).bind fun i h => match negF h o i with
  | some x => (me ρ h).bind (putF o i x)
  | none => .bad
def mAugS (mo mi me : ME) : MS := liftR (augSF mo mi me) fun _ ρ h => .nx ρ h
theorem s_augS (ho : SE X W o mo) (hi : SE X W i mi) (he : SE X W e me) (ha : ∀ ov iv new, augStore i ov iv new = (do holding [new, ov, iv] (setItem ov iv new); release [new, ov, iv] []; pure .next) := by intros; rfl) :
    SS X W (.AugAssign (.Subscript o i tpos) .Add e pos) (mAugS mo mi me) := PS.imp (ps_augS ho hi get_neg he ip_addA set_list ha) fun Dn σ H q => by
  have P : tP (fun _ _ (_ : Unit) (_ : Unit) => True) (Cx.ct X) W (augSF mo mi me) σ H (fun _ H1 => Dn.nx σ H1) := (tS.lift q).mono fun v H1 ⟨w1, ρ, h1, d, e1, s1, r1, p1⟩ => p1.nx e1 s1
  refine (tP.bind (k := fun ρ o h => (mi ρ h).bind fun i h => match negF h o i with
    | some x => (me ρ h).bind (putF o i x)
    | none => .bad) P).mono fun vo H1 ⟨w1, ρ, h1, o, e1, s1, ro, p1⟩ => ?_
  refine ⟨w1, ρ, h1, e1, s1, (Post.bind p1).mono fun vi H2 ⟨w2, h2, i, l2, ri, s2, p2⟩ => ?_⟩
  split at p2
  · rename_i x ex
    have ro2 := VR.le l2 ro
    cases o with
    | ref r =>
      cases i with
      | int k =>
        simp only [negF] at ex
        split at ex
        · rename_i hk
          split at ex
          · rename_i xs exs
            obtain ⟨a, vs, rfl, hq, z⟩ := lstOf_ok (xs := xs) s2 ro2 (by simp only [lstOf, exs])
            simp only [VR] at ri; subst ri
            obtain ⟨vx, evx, rvx⟩ := atI_rel z ex
            refine ⟨a, vs, k, vx, rfl, rfl, hk, hq, evx, w2, ρ, h2, e1.le l2, s2, (Post.bind p2).mono fun vy H3 ⟨w3, h3, y, l3, ry, s3, p3⟩ => ?_⟩
            unfold putF at p3
            split at p3
            · rename_i zz ez
              split at p3
              · rename_i h' es
                refine addP_ok ez (rvx.le l3) ry fun vz rz => ?_
                exact set_ok s3 (ro2.le l3) (by simp only [VR] : VR (Cx.ct X) w3 (.int k) (.int k)) rz es fun H4 s4 => p3 () w3 H4 (.refl _) trivial s4
              · exact p3.elim
            · exact p3.elim
          · cases ex
        · cases ex
      | _ => simp [negF] at ex
    | _ => simp [negF] at ex
  · exact p2.elim
end
end DD
set_option Elab.async false
set_option linter.all false
set_option maxRecDepth 100000
set_option maxHeartbeats 4000000
namespace RZ
open PySem PySem.Spec PyProof.Rows L2
/-- a text's signs and the items of the list at b, in new pairs -/
def Itsl (K : PySem.W.Frag) (x : Str) (b : Addr) : It :=
  ⟨fun i H => ∃ (ys : List V) (y : V), SqL K H b ys ∧ ys[i]? = some y ∧ i < x.cps.size,
    fun i H v H' => ∃ (T : Addr) (c : Nat) (y : V), v = .ref T ∧ H T = none ∧ H' = upd H T (.tup [.str ⟨#[c]⟩, y]) ∧ x.cps[i]? = some c ∧ ∀ ys, SqL K H b ys → ys[i]? = some y,
    fun i H => ∃ ys : List V, SqL K H b ys ∧ (i = x.cps.size ∨ i = ys.length) ∧ i ≤ x.cps.size ∧ i ≤ ys.length⟩
theorem turn_zipL {P : Program} {w : World} {K : PySem.W.Frag} {elts : List Expr} {kk : Nat} {tpos : Pos} {x : Str} {t : Tok} {b z TI TO i1 i2 : Addr} (D : ZipSep2 z TI TO i1 i2 [i1] [i2, b]) (hbi : b ≠ i2) :
    Turn P w K (.Tuple elts kk tpos) (Itsl K x b) [z, TI, TO, i1, i2] z (fun i h => IsZip h z TI TO .none ∧ IsPair h TI (.ref i1) (.ref i2) ∧ (∃ x y, IsPair h TO x y) ∧ h.IsStrIter i1 (strIterType x) x t i ∧ h.IsListIter i2 b i) where
  mem := by simp
  obj := fun i h st c hc => by
    obtain ⟨hz, hTI, ⟨x, y, hTO⟩, ⟨o1, e1, _, d1⟩, ⟨o2, e2, _, d2⟩⟩ := st
    have e' : c = z ∨ c = TI ∨ c = TO ∨ c = i1 ∨ c = i2 := by simpa using hc
    rcases e' with q | q | q | q | q
    · rw [q]; exact ⟨_, hz, fun v q => nomatch q⟩
    · rw [q]; exact ⟨_, hTI, fun v q => nomatch q⟩
    · rw [q]; exact ⟨_, hTO, fun v q => nomatch q⟩
    · rw [q]; exact ⟨o1, e1, fun v q => by rw [d1] at q; cases q⟩
    · rw [q]; exact ⟨o2, e2, fun v q => by rw [d2] at q; cases q⟩
  keep := fun i h h' st k => by
    obtain ⟨hz, hTI, ⟨x, y, hTO⟩, ⟨o1, e1, r1⟩, h2⟩ := st
    exact ⟨k z (by simp) _ hz, k TI (by simp) _ hTI, ⟨x, y, k TO (by simp) _ hTO⟩, ⟨o1, k i1 (by simp) _ e1, r1⟩, h2.at fun o q => k i2 (by simp) o q⟩
  item := by
    intro X hP hw hK hc i pins s σ H E I hf st hg
    subst hP hw hK
    obtain ⟨hz, hTI, ⟨x0, y0, hTO⟩, h1, h2⟩ := st
    obtain ⟨ys, y, hqy, hy, hlt⟩ := hg
    obtain ⟨its2, rv2, p2, _⟩ := I.list hqy
    obtain ⟨u2, hu2, ru2⟩ := rv2.get hy
    have hh := I.ok.hd hc
    have hzl : z < s.heap.objs.size := Heap.lt_size hz
    have hlt2 : i < its2.toArray.size := by
      have h1 := rv2.length
      have h2 : i < ys.length := (List.getElem?_eq_some_iff.mp hy).1
      simp; omega
    refine wpAny_pyNext_zipD2_item (i := i) (St1 := fun i h => h.IsStrIter i1 (strIterType x) x t i) (St2 := fun i h => h.IsListIter i2 b i ∧ h.IsList b its2.toArray) D (Draws.text (A := X.A.in1) hh i1 x t) (Draws.list (A := X.A.in1) hh i2 b hbi its2.toArray) hz hTI hTO h1 ⟨h2, p2.isList⟩ hlt hlt2 fun x1 x2 h' tk g1 g2 z' TO' h1' h2' hT hsz hk => ?_
    obtain ⟨c, uc, hcx, rfl⟩ := g1
    refine ⟨_, rfl, wpAny_letOwnedTupleGo_zip (s := { s with heap := h', toks := tk }) z' fun h'' z'' sb => ?_⟩
    have hT2 : h''.get? s.heap.objs.size = some { cls := .type "tuple", data := .seq #[.str ⟨#[c]⟩ uc, x2] } := (sb.2 _ (Nat.ne_of_gt hzl)).trans hT
    have ex2 : x2 = u2 := by
      have q : its2.toArray[i]? = some x2 := g2
      have q' : its2[i]? = some x2 := by simpa using q
      rw [hu2] at q'; exact (Option.some.inj q').symm
    subst ex2
    have new : ObjOk X.prog X.w (upd H s.heap.objs.size (.tup [.str ⟨#[c]⟩, y])) h'' s.heap.objs.size (.tup [.str ⟨#[c]⟩, y]) :=
      ⟨by show 2 ≤ sizeLine; decide, [.str ⟨#[c]⟩ uc, x2], .cons ⟨uc, rfl⟩ (.cons ru2 .nil), ⟨_, hT2, rfl, _, rfl⟩⟩
    have I1 : Inv X pins σ (upd H s.heap.objs.size (.tup [.str ⟨#[c]⟩, y])) { s with heap := h'', toks := tk } :=
      I.turnedNew (t' := tk) (ch := [z, TI, TO, i1, i2]) (fun c o hb q => (sb.2 c (fun q' => hb (by simp [q']))).trans (hk c o (fun q' => hb (by simp [q'])) (fun q' => hb (by simp [q'])) (fun q' => hb (by simp [q'])) (fun q' => hb (by simp [q'])) q)) hf (Nat.le_refl _) new
    refine ⟨.ref s.heap.objs.size, _, I1, rfl, ⟨_, c, y, rfl, I.hok.fresh (Nat.le_refl _), rfl, hcx, fun l hl => by rw [I.list_inj hl hqy]; exact hy⟩, ⟨z'', ?_, ⟨.str ⟨#[c]⟩ uc, x2, ?_⟩, ?_, ?_⟩, fun c hcm => ?_⟩
    · exact (sb.2 _ D.TIz).trans (hk _ _ D.TIz D.TITO D.TIi1 D.TIi2 hTI)
    · exact (sb.2 _ D.TOz).trans TO'
    · obtain ⟨o1, e1, r1⟩ := h1'
      exact ⟨o1, (sb.2 _ D.zi1.symm).trans e1, r1⟩
    · exact h2'.1.at fun o q => (sb.2 _ D.zi2.symm).trans q
    · have hlt : c < s.heap.objs.size := by
        have e' : c = z ∨ c = TI ∨ c = TO ∨ c = i1 ∨ c = i2 := by simpa using hcm
        rcases e' with q | q | q | q | q
        · rw [q]; exact hzl
        · rw [q]; exact Heap.lt_size hTI
        · rw [q]; exact Heap.lt_size hTO
        · rw [q]; obtain ⟨_, e1, _⟩ := h1; exact Heap.lt_size e1
        · rw [q]; obtain ⟨_, e2, _⟩ := h2; exact Heap.lt_size e2
      rw [upd_ne (Nat.ne_of_lt hlt)]
      exact (hf c hcm).1
  done := by
    intro X hP hw hK hc i pins s σ H E I hf st hg
    subst hP hw hK
    obtain ⟨hz, hTI, ⟨x0, y0, hTO⟩, h1, h2⟩ := st
    obtain ⟨ys, hqy, hend, hl1, hl2⟩ := hg
    obtain ⟨its2, rv2, p2, _⟩ := I.list hqy
    have l2 := rv2.length
    have hh := I.ok.hd hc
    have e2 : its2.toArray.size = ys.length := by simp; omega
    exact wpAny_pyNext_zipD2_end (i := i) (St1 := fun i h => h.IsStrIter i1 (strIterType x) x t i) (St2 := fun i h => h.IsListIter i2 b i ∧ h.IsList b its2.toArray) D (Draws.text (A := X.A.in1) hh i1 x t) (Draws.list (A := X.A.in1) hh i2 b hbi its2.toArray) hz hTI hTO h1 ⟨h2, p2.isList⟩ hl1 (by omega) (by omega) fun h' tk hk => ⟨rfl, I.turnedL (t' := tk) (ch := [z, TI, TO, i1, i2]) (fun c o hb q =>
      hk c o (fun q' => hb (by simp [q'])) (fun q' => hb (by simp [q'])) (fun q' => hb (by simp [q'])) (fun q' => hb (by simp [q'])) q) hf⟩
  self := fun A i s Q E st h => wpAny_pyIter_zip st.1 h
def iZipL (K : PySem.W.Frag) (ta : TA) : TI := fun σ H R => ta σ H fun vs H1 => ∃ (x : Str) (b : Addr) (ys : List V), vs = [.str x, .ref b] ∧ SqL K H1 b ys ∧ R (Itsl K x b) H1
theorem pi_zipL {X : Cx} {e e2 : Expr} {ta : TA} {p pos tpos : Pos} {elts : List Expr} {kk : Nat} (hg : Gl X "zip") (hm : X.mg "zip" = none) (ha : PA X [e, e2] ta)
    (hs : starEach [e, e2] X.env = (false, eval e X.env) :: starEach [e2] X.env := by rfl) (hpl : (backTo pos (starEach [e2] X.env)).any (·.1) = false := by rfl) :
    PI X (.Tuple elts kk tpos) (.Call (.Name "zip" p) [e, e2] [] pos) (iZipL X.K ta) := by
  refine ⟨fun pins s σ H R I h => ?_⟩
  refine Call_ (ld_blt I hg hm PyProof.Rows.boot_zip (PyProof.Rows.callWith_type1 (thn (ha.run pos pins s σ H _ I h) fun us s1 ⟨vs, H1, I1, r1, q1⟩ => ?_) hs hpl))
  obtain ⟨x, b, ys, ex, hqy, q⟩ := q1
  subst ex
  cases r1 with
  | cons r rr =>
    cases rr with
    | cons r' rr =>
      cases rr
      obtain ⟨t, rfl⟩ := r
      cases r'
      have fresh5 : ∀ c, c ∈ [s1.heap.objs.size + 4, s1.heap.objs.size + 2, s1.heap.objs.size + 3, s1.heap.objs.size, s1.heap.objs.size + 1] → FpOk X pins H1 c := fun c hcm => by
        have e' : c = s1.heap.objs.size + 4 ∨ c = s1.heap.objs.size + 2 ∨ c = s1.heap.objs.size + 3 ∨ c = s1.heap.objs.size ∨ c = s1.heap.objs.size + 1 := by simpa using hcm
        have hle : s1.heap.objs.size ≤ c := by
          rcases e' with z | z | z | z | z
          · rw [z]; exact Nat.le_add_right _ _
          · rw [z]; exact Nat.le_add_right _ _
          · rw [z]; exact Nat.le_add_right _ _
          · rw [z]; exact Nat.le_refl _
          · rw [z]; exact Nat.le_add_right _ _
        exact I1.fpOk hle (I1.hok.fresh hle)
      obtain ⟨its2, rv2, p2, _⟩ := I1.list hqy
      obtain ⟨o2, ho2, _⟩ := id p2.isList
      have hb : b < s1.heap.objs.size := Heap.lt_size ho2
      refine zip_begins2 (begins_text x t) (begins_list b its2.toArray) trivial (show s1.heap.IsList b its2.toArray from p2.isList) fun h' hz hTI hTO h1 h2 hsz hk => wpAny_pyIter_zip hz ?_
      have I2 : Inv X pins σ H1 { s1 with heap := h' } := I1.kept (t' := s1.toks) hk
      refine ⟨s1.heap.objs.size + 4, [s1.heap.objs.size + 4, s1.heap.objs.size + 2, s1.heap.objs.size + 3, s1.heap.objs.size, s1.heap.objs.size + 1], _, _, H1, rfl, I2, turn_zipL (x := x) (t := t) (sep5 hb) (Nat.ne_of_lt (Nat.lt_succ_of_lt hb)), ⟨hz, hTI, ⟨_, _, hTO⟩, ⟨_, h1, rfl, rfl⟩, ⟨_, h2, rfl, rfl⟩⟩, fresh5, q⟩
end RZ
namespace DD
open PySem PySem.Spec L2 RZ
/-! ## zip(a text, a list) -/
theorem srcZL {c : Ct} {w : Wd} {h0 : Hd} {H0 : Hp} {x : Str} {b : Addr} {y : D} {ys : List D} (s0 : SR c w h0 H0) (ry : VR c w y (.ref b)) : SrcOk c w ⟨zipD (signs x) ys, fun h => lstOf h y = some ys⟩ (Itsl c.K x b) := by
  have sl : (signs x).length = x.cps.size := by simp [signs]
  refine ⟨fun H => ∃ us, SqL c.K H b us ∧ us.length = ys.length, fun i H v H' => ∃ (T : Addr) (k : Nat) (y : V), v = .ref T ∧ H T = none ∧ H' = upd H T (.tup [.str ⟨#[k]⟩, y]) ∧ x.cps[i]? = some k ∧ ∀ ys, SqL c.K H b ys → ys[i]? = some y,
    ⟨fun i H hi g => ?_, fun H g => ?_, fun i H x H' hi g y => y⟩, fun w2 h2 H2 l s ck => ?_, fun i v H2 H3 w2 h2 hi l s ck y => ?_⟩
  · obtain ⟨us, g, e⟩ := g
    rw [zipD_len, sl] at hi
    have h2 : i < us.length := by omega
    exact ⟨us, us[i], g, List.getElem?_eq_getElem h2, by omega⟩
  · obtain ⟨us, g, e⟩ := g
    refine ⟨us, g, ?_, ?_, ?_⟩ <;> (rw [zipD_len, sl]; omega)
  · obtain ⟨b2, us2, eb2, q3, z3⟩ := lstOf_ok s (ry.le0 l) ck
    cases eb2
    exact ⟨us2, SqL.of q3, z3.len.symm⟩
  · obtain ⟨b2, us2, eb2, q3, z3⟩ := lstOf_ok s (ry.le0 l) ck
    cases eb2
    obtain ⟨T, k, q, rfl, hn, rfl, y1, y2⟩ := y
    obtain ⟨d2, e2, r2⟩ := z3.get' (y2 _ (SqL.of q3))
    have e1 : (signs x)[i]? = some (.str ⟨#[k]⟩) := by simp [signs, y1]
    obtain ⟨w3, l3, s3, r3⟩ := new_tup (ds := [.str ⟨#[k]⟩, d2]) (vs := [.str ⟨#[k]⟩, q]) s (.cons (by simp only [VR]) (.one r2)) hn
    exact ⟨w3, _, l3, s3, zipD_get e1 e2, r3⟩
def zipTF (h : Hd) : List D → Option Src
  | [.str s, y] => match lstOf h y with
    | some ys => some ⟨zipD (signs s) ys, fun h => lstOf h y = some ys⟩
    | none => zipXF h [.str s, y]
  | ds => zipXF h ds
section
variable {X : Cx} {W : WX} {tg e e2 : Expr} {mas : MA} {p pos tpos : Pos}
theorem i_zipT {elts : List Expr} {kk : Nat} (hm : X.mg "zip" = none) (ha : SA X W [e, e2] mas) (hg : Gl X "zip" := by rfl)
    (hs : starEach [e, e2] X.env = (false, eval e X.env) :: starEach [e2] X.env := by rfl) (hpl : (backTo pos (starEach [e2] X.env)).any (·.1) = false := by rfl) : SI X W (.Tuple elts kk tpos) (.Call (.Name "zip" p) [e, e2] [] pos) (mSrc zipTF mas) := PI.imp (PI.or (i_zipX hm ha hg hs hpl) (pi_zipL hg hm ha hs hpl)) fun σ H R q => by
  obtain ⟨w, ρ, h, er, sr, pq⟩ := q
  by_cases hc : ∃ s y ys h1, mas ρ h = .ok [.str s, y] h1 ∧ lstOf h1 y = some ys
  · refine .inr ?_
    obtain ⟨s, y, ys, h1, em, el⟩ := hc
    have pq' : Post (fun w _ s J => SrcOk (Cx.ct X) w s J) (Cx.ct X) w W σ ((mas ρ h).bind fun ds h => optR (zipTF h ds) h) R := pq
    rw [em] at pq'
    refine ⟨w, ρ, h, er, sr, ?_⟩
    rw [em]
    intro vs w1 H1 l r1 s1
    obtain ⟨v, u, rfl, r, r'⟩ := r1.two_inv
    simp only [VR] at r
    subst r
    obtain ⟨b, us, rfl, hq, z⟩ := lstOf_ok s1 r' el
    have p2 := Post.le l pq'
    have ez : zipTF h1 [.str s, y] = some ⟨zipD (signs s) ys, fun h => lstOf h y = some ys⟩ := by
      show (match lstOf h1 y with | some ys => some _ | none => _) = _
      rw [el]
    have p3 : Post (fun w _ s J => SrcOk (Cx.ct X) w s J) (Cx.ct X) w1 W σ (optR (zipTF h1 [.str s, y]) h1) R := p2
    rw [ez] at p3
    exact ⟨s, b, us, rfl, SqL.of hq, p3 _ w1 H1 (.refl _) (srcZL s1 r') s1⟩
  · refine .inl ⟨w, ρ, h, er, sr, ?_⟩
    have e : mSrc zipTF mas ρ h = mSrc zipXF mas ρ h := by
      unfold mSrc
      cases em : mas ρ h with
      | ok ds h1 =>
        show optR (zipTF h1 ds) h1 = optR (zipXF h1 ds) h1
        unfold zipTF
        split
        · split
          · rename_i ys el
            exact absurd ⟨_, _, _, _, em, el⟩ hc
          · rfl
        · rfl
      | _ => rfl
    rw [← e]
    exact pq
end
/-! ## a text, none or one times -/
def rMulS : R2 := fun x y H Q => ∃ (a : Str) (k : Int), x = .str a ∧ y = .int k ∧ (k = 0 ∧ Q (.str Str.empty) H ∨ k = 1 ∧ Q (.str a) H)
theorem op_mulS {X : Cx} : OpR X (binaryOp .Mult) rMulS := by
  intro pins s σ H x y v u Q I rx ry h
  obtain ⟨a, k, rfl, rfl, h⟩ := h
  obtain ⟨t, rfl⟩ := rx
  obtain ⟨t', rfl⟩ := ry
  rcases h with ⟨rfl, q⟩ | ⟨rfl, q⟩
  · exact P.mul_str_none (by omega) (by omega) ⟨.str Str.empty, H, I.tok _, ⟨_, rfl⟩, q⟩
  · refine P.mul_str (by decide) (fun _ h => by simp at h) (fun _ h => by simp at h) ?_
    rw [if_neg (by omega), if_pos (by simp)]
    exact ⟨.str a, H, I, ⟨t, rfl⟩, q⟩
def mulTF (x y : D) (h : Hd) : Res O := match x, y with
  | .str a, .int k => if k = 0 then .ok (.val (.str Str.empty)) h else if k = 1 then .ok (.val (.str a)) h else .bad
  | x, y => mulF x y h
theorem s_mulT {c : Ct} : OpS c (fun x y H Q => rMulA x y H Q ∨ rMulS x y H Q) mulTF := fun {w W σ h H x y dx dy Q} s rx ry p => by
  unfold mulTF at p
  split at p
  · rename_i a k
    simp only [VR] at rx ry; subst rx ry
    split at p
    · rename_i e; subst e
      exact .inr ⟨a, 0, rfl, rfl, .inl ⟨rfl, p.ret (by simp only [RO, VR]) s⟩⟩
    · split at p
      · rename_i e; subst e
        exact .inr ⟨a, 1, rfl, rfl, .inr ⟨rfl, p.ret (by simp only [RO, VR]) s⟩⟩
      · exact p.elim
  · exact .inl (s_mul s rx ry p)
theorem o_mulT {X : Cx} {W : WX} {a b : Expr} {ma mb : ME} {pos : Pos} (ha : SE X W a ma) (hb : SE X W b mb) : SO X W (.BinOp a .Mult b pos) (mBin mulTF ma mb) := e_bin (op_mulA.or op_mulS) s_mulT ha hb
end DD
set_option Elab.async false
set_option linter.all false
set_option maxRecDepth 100000
set_option maxHeartbeats 4000000
namespace DD
open PySem PySem.Spec L2 TL
/-! ## texts with brackets, scanned sign by sign -/
def plainC (c : Nat) : Prop := c ≠ 40 ∧ c ≠ 41 ∧ c ≠ 44
structure Sc where
  deep : Nat
  fs : List Str
  p : Str
def sgn (c : Nat) : Str := ⟨#[c]⟩
theorem tl_sgn (c : Nat) : tl (sgn c) = [c] := rfl
def stp (c : Nat) (s : Sc) : Option Sc :=
  if c = 40 then some ⟨s.deep + 1, s.fs, s.p ++ sgn c⟩
  else if c = 41 then (match s.deep with
    | 0 => none
    | d + 1 => some ⟨d, s.fs, s.p ++ sgn c⟩)
  else if c = 44 ∧ s.deep = 0 then some ⟨0, s.fs ++ [s.p], Str.empty⟩
  else some ⟨s.deep, s.fs, s.p ++ sgn c⟩
def scan : List Nat → Sc → Option Sc
  | [], s => some s
  | c :: l, s => (stp c s).bind (scan l)
theorem scan_app : ∀ (l m : List Nat) (s : Sc), scan (l ++ m) s = (scan l s).bind (scan m)
  | [], m, s => rfl
  | c :: l, m, s => by
    show (stp c s).bind (scan (l ++ m)) = ((stp c s).bind (scan l)).bind (scan m)
    cases stp c s with
    | none => rfl
    | some s' => exact scan_app l m s'
def Bal (t : Str) : Prop := ∀ s : Sc, scan (tl t) s = some ⟨s.deep, s.fs, s.p ++ t⟩
theorem app_sgn {p : Str} {c : Nat} {l : List Nat} : p ++ sgn c ++ ⟨l.toArray⟩ = p ++ ⟨(c :: l).toArray⟩ := ext_tl (by rw [tl_append, tl_append, tl_append]; show tl p ++ [c] ++ l = tl p ++ (c :: l); simp)
theorem app_emp {p : Str} : p ++ ⟨([] : List Nat).toArray⟩ = p := ext_tl (by rw [tl_append, tl_mk, List.append_nil])
theorem scan_plain : ∀ (l : List Nat) (s : Sc), (∀ c ∈ l, plainC c) → scan l s = some ⟨s.deep, s.fs, s.p ++ ⟨l.toArray⟩⟩
  | [], s, _ => by rw [app_emp]; rfl
  | c :: l, s, h => by
    obtain ⟨h1, h2, h3⟩ := h c (by simp)
    have e : stp c s = some ⟨s.deep, s.fs, s.p ++ sgn c⟩ := by
      unfold stp
      rw [if_neg h1, if_neg h2, if_neg (fun z => h3 z.1)]
    show (stp c s).bind (scan l) = _
    rw [e]
    show scan l _ = _
    rw [scan_plain l _ fun c hc => h c (List.mem_cons_of_mem _ hc)]
    simp only [app_sgn]
theorem bal_plain {t : Str} (h : ∀ c ∈ tl t, plainC c) : Bal t := fun s => by rw [scan_plain _ s h, mk_tl]
theorem app_assoc (a b c : Str) : a ++ b ++ c = a ++ (b ++ c) := ext_tl (by simp only [tl_append, List.append_assoc])
theorem stp_open (s : Sc) : stp 40 s = some ⟨s.deep + 1, s.fs, s.p ++ sgn 40⟩ := rfl
theorem stp_shut (d : Nat) (fs : List Str) (p : Str) : stp 41 ⟨d + 1, fs, p⟩ = some ⟨d, fs, p ++ sgn 41⟩ := rfl
theorem stp_comma (d : Nat) (fs : List Str) (p : Str) : stp 44 ⟨d + 1, fs, p⟩ = some ⟨d + 1, fs, p ++ sgn 44⟩ := by
  unfold stp
  rw [if_neg (by decide), if_neg (by decide), if_neg (by simp)]
theorem stp_part (fs : List Str) (p : Str) : stp 44 ⟨0, fs, p⟩ = some ⟨0, fs ++ [p], Str.empty⟩ := rfl
theorem scan_one (c : Nat) (s : Sc) : scan [c] s = stp c s := by
  show (stp c s).bind (scan []) = _
  cases stp c s <;> rfl
theorem tl_comma : tl ("," : Str) = [44] := by decide +kernel
theorem tl_open : tl ("(" : Str) = [40] := by decide +kernel
theorem tl_shut : tl (")" : Str) = [41] := by decide +kernel
theorem tl_plus : tl ("+" : Str) = [43] := by decide +kernel
theorem sgn_comma : sgn 44 = "," := ext_tl tl_comma.symm
theorem sgn_open : sgn 40 = "(" := ext_tl tl_open.symm
theorem sgn_shut : sgn 41 = ")" := ext_tl tl_shut.symm
theorem scan_in (d : Nat) : ∀ (ts : List Str) (fs : List Str) (p : Str), (∀ t ∈ ts, Bal t) → scan (tl (Str.join "," ts)) ⟨d + 1, fs, p⟩ = some ⟨d + 1, fs, p ++ Str.join "," ts⟩
  | [], fs, p, _ => by
    show some _ = some _
    rw [show p ++ Str.join "," [] = p from Str.append_empty p]
  | [t], fs, p, h => h t (by simp) ⟨d + 1, fs, p⟩
  | t :: u :: r, fs, p, h => by
    show scan (tl (t ++ "," ++ Str.join "," (u :: r))) _ = some ⟨d + 1, fs, p ++ (t ++ "," ++ Str.join "," (u :: r))⟩
    rw [tl_append, tl_append, tl_comma, scan_app, scan_app, h t (by simp), Option.bind_some, scan_one, stp_comma, Option.bind_some, scan_in d (u :: r) _ _ fun t ht => h t (List.mem_cons_of_mem _ ht), sgn_comma]
    simp only [app_assoc]
theorem scan_top : ∀ (t : Str) (ts : List Str) (fs : List Str), (∀ u ∈ t :: ts, Bal u) → ∃ fs' p', scan (tl (Str.join "," (t :: ts))) ⟨0, fs, Str.empty⟩ = some ⟨0, fs', p'⟩ ∧ fs' ++ [p'] = fs ++ (t :: ts)
  | t, [], fs, h => ⟨fs, t, by
      show scan (tl t) _ = _
      rw [h t (by simp), Str.empty_append], rfl⟩
  | t, u :: r, fs, h => by
    obtain ⟨fs', p', e1, e2⟩ := scan_top u r (fs ++ [t]) fun u hu => h u (List.mem_cons_of_mem _ hu)
    refine ⟨fs', p', ?_, by rw [e2]; simp⟩
    show scan (tl (t ++ "," ++ Str.join "," (u :: r))) _ = _
    rw [tl_append, tl_append, tl_comma, scan_app, scan_app, h t (by simp), Option.bind_some, scan_one, stp_part, Option.bind_some]
    simp only [Str.empty_append]
    exact e1
/-- a term's text -/
def termT (f : Str) (ts : List Str) : Str := if ts = [] then f else f ++ "(" ++ Str.join "," ts ++ ")"
theorem bal_term {f : Str} {ts : List Str} (hf : ∀ c ∈ tl f, plainC c) (h : ∀ t ∈ ts, Bal t) : Bal (termT f ts) := by
  unfold termT
  split
  · exact bal_plain hf
  · intro s
    rw [tl_append, tl_append, tl_append, tl_open, tl_shut, scan_app, scan_app, scan_app, bal_plain hf, Option.bind_some, scan_one, stp_open, Option.bind_some, scan_in s.deep ts _ _ h, Option.bind_some, scan_one, stp_shut, sgn_open, sgn_shut]
    simp only [app_assoc]
/-! ## small letters, numbers -/
def low (s : Str) : Prop := ∀ c ∈ tl s, 97 ≤ c ∧ c ≤ 122
theorem low_plain {s : Str} (h : low s) : ∀ c ∈ tl s, plainC c := fun c hc => by
  have := h c hc
  unfold plainC
  omega
theorem low_app {a b : Str} (ha : low a) (hb : low b) : low (a ++ b) := fun c hc => by
  rw [tl_append] at hc
  rcases List.mem_append.mp hc with hc | hc
  · exact ha c hc
  · exact hb c hc
theorem tl_neg (n : Nat) : tl (itoS (Int.negSucc n)) = 45 :: numL (n + 1) := by
  have e : toString (Int.negSucc n) = "-" ++ toString (n + 1) := rfl
  unfold itoS
  rw [e, tl_ofString, String.toList_append, List.map_append]
  have e2 : (toString (n + 1)).toList.map Char.toNat = numL (n + 1) := by
    have := tl_num (n + 1)
    rw [tl_ofString] at this
    exact this
  rw [e2]
  rfl
theorem tl_pos (n : Nat) : tl (itoS (n : Int)) = numL n := tl_num n
theorem tl_int (i : Int) : (0 ≤ i ∧ tl (itoS i) = numL i.toNat) ∨ (i < 0 ∧ tl (itoS i) = 45 :: numL (-i).toNat) := by
  cases i with
  | ofNat n => exact .inl ⟨by simp, tl_pos n⟩
  | negSucc n => exact .inr ⟨by omega, by rw [tl_neg]; rfl⟩
theorem int_plain (i : Int) : ∀ c ∈ tl (itoS i), plainC c := fun c hc => by
  have dig : ∀ n, c ∈ numL n → plainC c := fun n h => by
    have := numL_digits n c h
    unfold plainC
    omega
  rcases tl_int i with ⟨_, e⟩ | ⟨_, e⟩
  · rw [e] at hc; exact dig _ hc
  · rw [e] at hc
    rcases List.mem_cons.mp hc with rfl | hc
    · unfold plainC; omega
    · exact dig _ hc
theorem int_len {i : Int} {k : Nat} (hk : 0 < k) (h : i.natAbs < 10 ^ k) : (itoS i).length ≤ k + 1 := by
  rw [len_tl]
  rcases tl_int i with ⟨h0, e⟩ | ⟨h0, e⟩
  · rw [e]
    have := numL_len (n := i.toNat) hk (by omega)
    omega
  · rw [e]
    have := numL_len (n := (-i).toNat) hk (by omega)
    simp; omega
theorem int_back {i : Int} (h : i.natAbs < 10 ^ 30) : PySem.intText? (itoS i) = some i := by
  rcases tl_int i with ⟨h0, e⟩ | ⟨h0, e⟩
  · obtain ⟨n, rfl⟩ : ∃ n : Nat, i = (n : Int) := ⟨i.toNat, by omega⟩
    exact int_num (Nat.le_trans (numL_len (k := 30) (by omega) (by omega)) (by omega))
  · have l := numL_len (n := (-i).toNat) (k := 30) (by omega) (by omega)
    have := PySem.intText_neg (x := itoS i) e (numL_digits _) (numL_ne _) (by rw [len_tl, e]; simp; omega)
    rw [this, numL_val]
    congr 1
    omega
end DD
set_option Elab.async false
set_option linter.all false
set_option maxRecDepth 100000
set_option maxHeartbeats 4000000
namespace DD
open PySem PySem.Spec L2 TL RZ
section
variable {h : Hd}
@[simp] theorem zipTF_st (s : Str) (ys : List D) : zipTF h [.str s, .tup ys] = some ⟨zipD (signs s) ys, fun _ => True⟩ := rfl
@[simp] theorem zipTF_tt (xs ys : List D) : zipTF h [.tup xs, .tup ys] = some ⟨zipD xs ys, fun _ => True⟩ := rfl
@[simp] theorem zipTF_ll (xs ys : List D) : zipTF h [.lst xs, .lst ys] = some ⟨zipD xs ys, fun h => lstOf h (.lst xs) = some xs ∧ lstOf h (.lst ys) = some ys⟩ := rfl
@[simp] theorem zipTF_sl (s : Str) (ys : List D) : zipTF h [.str s, .lst ys] = some ⟨zipD (signs s) ys, fun h => lstOf h (.lst ys) = some ys⟩ := rfl
theorem zipTF_sr {s : Str} {r : Nat} {ys : List D} (e : h[r]? = some (.lst ys)) : zipTF h [.str s, .ref r] = some ⟨zipD (signs s) ys, fun h => lstOf h (.ref r) = some ys⟩ := by
  have e' : lstOf h (.ref r) = some ys := by simp only [lstOf, e]
  show (match lstOf h (.ref r) with | some ys => some _ | none => _) = _
  rw [e']
@[simp] theorem mulTF_int (i j : Int) : mulTF (.int i) (.int j) h = if (-(2 ^ 64) < i ∧ i < 2 ^ 64) ∨ (-(2 ^ 64) < j ∧ j < 2 ^ 64) then .ok (.val (.int (i * j))) h else .bad := rfl
@[simp] theorem mulTF_s0 (a : Str) : mulTF (.str a) (.int 0) h = .ok (.val (.str Str.empty)) h := rfl
@[simp] theorem mulTF_s1 (a : Str) : mulTF (.str a) (.int 1) h = .ok (.val (.str a)) h := rfl
@[simp] theorem intTF_int (i : Int) : intTF [.int i] h = .ok (.val (.int i)) h := rfl
@[simp] theorem intTF_bl (b : Bool) : intTF [.bl b] h = .ok (.val (.int (if b then 1 else 0))) h := rfl
theorem intTF_str {a : Str} {n : Int} (e : PySem.intText? a = some n) (z : a.length ≤ 640) : intTF [.str a] h = .ok (.val (.int n)) h := by
  show (match PySem.intText? a with | some n => if a.length ≤ 640 then Res.ok (O.val (.int n)) h else .bad | none => .bad) = _
  rw [e]; exact if_pos z
theorem strF_int {i : Int} (z : i.natAbs.log2 < 1920) : strF [.int i] h = .ok (.val (.str (itoS i))) h := by
  show (if i.natAbs.log2 < 1920 then Res.ok (O.val (.str (itoS i))) h else .bad) = _
  exact if_pos z
theorem log_small {i : Int} (z : i.natAbs < 2 ^ 1000) : i.natAbs.log2 < 1920 := by
  by_cases e : i.natAbs = 0
  · rw [e]; decide
  · exact Nat.lt_trans ((Nat.log2_lt e).mpr z) (by omega)
/-! the parts of an f-string -/
def fmtK : Res D → Res D
  | .ok d h => fmtF d h
  | .exc x h => .exc x h
  | .bad => .bad
@[simp] theorem fmtK_ok (d : D) (h : Hd) : fmtK (.ok d h) = fmtF d h := rfl
@[simp] theorem mFmt_k (m : ME) (ρ : Env) (h : Hd) : mFmt m ρ h = fmtK (m ρ h) := by unfold mFmt fmtK; cases m ρ h <;> rfl
theorem fmtF_str {y : Str} (z : y.length ≤ sizeLine) : fmtF (.str y) h = .ok (.str y) h := if_pos z
def jsK (ms : List ME) (acc : Str) (ρ : Env) : Res D → Res D
  | .ok (.str y) h => if (acc ++ y).length ≤ sizeLine then mJs ms (acc ++ y) ρ h else .bad
  | .ok _ _ => .bad
  | .exc x h => .exc x h
  | .bad => .bad
@[simp] theorem jsK_str (ms : List ME) (acc : Str) (ρ : Env) (y : Str) (h : Hd) : jsK ms acc ρ (.ok (.str y) h) = if (acc ++ y).length ≤ sizeLine then mJs ms (acc ++ y) ρ h else .bad := rfl
@[simp] theorem mJs_nil (acc : Str) (ρ : Env) (h : Hd) : mJs [] acc ρ h = .ok (.str acc) h := rfl
@[simp] theorem mJs_cons (m : ME) (ms : List ME) (acc : Str) (ρ : Env) (h : Hd) : mJs (m :: ms) acc ρ h = jsK ms acc ρ (m ρ h) := by
  show (m ρ h).bind _ = _
  cases m ρ h with
  | ok d h1 => cases d <;> rfl
  | _ => rfl
/-! x += e -/
def augKK (i : Nat) (x : D) (ρ : Env) : Res D → Fl
  | .ok d h => augK i x d ρ h
  | .exc x h => .exc x ρ h
  | .bad => .bad
@[simp] theorem augKK_ok (i : Nat) (x d : D) (ρ : Env) (h : Hd) : augKK i x ρ (.ok d h) = augK i x d ρ h := rfl
theorem mAug_at {i : Nat} {m : ME} {ρ : Env} {x : D} (h : Hd) (e : ρ[i]? = some (some x)) : mAug i m ρ h = augKK i x ρ (m ρ h) := by
  unfold mAug
  rw [e]
  show liftR m (augK i x) ρ h = _
  unfold liftR augKK
  cases m ρ h <;> rfl
@[simp] theorem augK_int (k : Nat) (i j : Int) (ρ : Env) (h : Hd) : augK k (.int i) (.int j) ρ h = .nx (ρ.set k (some (.int (i + j)))) h := rfl
def augSK (ρ : Env) : Res Unit → Fl
  | .ok _ h => .nx ρ h
  | .exc x h => .exc x ρ h
  | .bad => .bad
@[simp] theorem augSK_ok (ρ : Env) (u : Unit) (h : Hd) : augSK ρ (.ok u h) = .nx ρ h := rfl
theorem mAugS_k (mo mi me : ME) (ρ : Env) (h : Hd) : mAugS mo mi me ρ h = augSK ρ (augSF mo mi me ρ h) := by
  unfold mAugS liftR augSK
  cases augSF mo mi me ρ h <;> rfl
end
/-! ## letters -/
def abcT : Str := "abcdefghijklmnopqrstuvwxyz"
theorem abc_low : low abcT := by
  unfold low
  decide +kernel
theorem ixF_low {h : Hd} {s : Str} {i : Int} (hi : 0 ≤ i ∧ i < (s.length : Int)) (hz : s.length ≤ 1000) (ho : sOk s) (hl : low s) : ∃ u : Str, ixF h (.str s) (.int i) = some (.str u) ∧ u.length = 1 ∧ sOk u ∧ low u := by
  obtain ⟨c, hc, e⟩ := atI_in (xs := s.cps.toList) (i := i) (by rw [Array.length_toList]; exact hi)
  refine ⟨⟨#[c]⟩, by rw [ixF_str s i (sz_small hz), e]; rfl, rfl, sOk_one (sOk_iff.mp ho c hc), fun x hx => ?_⟩
  have ex : x = c := by simpa using hx
  rw [ex]; exact hl c hc
theorem low_join : ∀ {ss : List Str}, (∀ s ∈ ss, low s) → low (Txt.join "" ss) := by
  intro ss h
  rw [join_eq]
  induction ss with
  | nil => intro c hc; cases hc
  | cons t r ih =>
    cases r with
    | nil => exact h t (by simp)
    | cons u r =>
      show low (t ++ "" ++ Str.join "" (u :: r))
      exact low_app (low_app (h t (by simp)) (fun c hc => by
        have e : tl ("" : Str) = [] := by decide +kernel
        rw [e] at hc; cases hc)) (ih fun s hs => h s (List.mem_cons_of_mem _ hs))
theorem low_cut {s : Str} (lo hi : Option Int) (h : low s) : low (cutS s lo hi) := fun c m => by
  unfold cutS at m
  exact h c (List.mem_of_mem_drop (List.mem_of_mem_take m))
end DD
set_option Elab.async false
set_option linter.all false
set_option maxRecDepth 100000
set_option maxHeartbeats 4000000
namespace DD
open PySem PySem.Spec L2 TL RZ
/-! ## join of a tuple too -/
def joinTF (a : Str) (y : D) (h : Hd) : Res O := match (seqOf h y).bind keysS with
  | some ss => if (ss.map (·.length)).sum + ss.length * a.length ≤ 16777216 then .ok (.val (.str (Txt.join a ss))) h else .bad
  | none => .bad
def mJoinT (ma mb : ME) : Env → Hd → Res O := fun ρ h => (ma ρ h).bind <| onStr fun a h => (mb ρ h).bind fun y h => joinTF a y h
section
variable {X : Cx} {W : WX} {a b : Expr} {ma mb : ME} {pos apos : Pos} {h : Hd}
theorem e_joinT (ha : SE X W a ma) (hb : SE X W b mb) (hs : starEach [b] X.env = [(false, eval b X.env)] := by rfl) (hbase : attributeBase a "join" X.env (eval a X.env) = eval a X.env := by rfl) (hline : (apos.endLine == pos.line) = true := by rfl) :
    SO X W (.Call (.Attribute a "join" apos) [b] [] pos) (mJoinT ma mb) := PE.imp (pe_join ha hb hs hbase hline) fun σ H Q q => by
  refine (tP.bind (k := fun ρ => onStr fun a h => (mb ρ h).bind fun y h => joinTF a y h) q).mono fun v H1 ⟨w1, ρ, h1, d, e1, s1, r1, p1⟩ => ?_
  cases d with
  | str z =>
    simp only [VR] at r1
    refine ⟨⟨z, r1⟩, w1, ρ, h1, e1, s1, (Post.bind (k := joinTF z) p1).mono fun u H2 ⟨w2, h2, d2, l2, r2, s2, p2⟩ => ?_⟩
    unfold joinTF at p2
    split at p2
    · rename_i ss es
      rw [Option.bind_eq_some_iff] at es
      obtain ⟨xs, ex, ek⟩ := es
      split at p2
      · rename_i hz
        obtain ⟨l, vs, rfl, q1, z1⟩ := seqOf_ok s2 r2 ex
        have ev := keysS_ok z1 ek
        subst ev
        exact ⟨z, l, ss, r1, rfl, q1, hz, p2.ret (by simp only [RO, VR]) s2⟩
      · exact p2.elim
    · exact p2.elim
  | _ => exact p1.elim
@[simp] theorem joinTF_lst (a : Str) (xs : List D) : joinTF a (.lst xs) h = joinF a (.lst xs) h := rfl
theorem joinTF_tup (a : Str) (ss : List Str) : joinTF a (.tup (ss.map .str)) h = joinF a (.lst (ss.map .str)) h := rfl
def joinT2 (a : Str) : Res D → Res O
  | .ok y h => joinTF a y h
  | .exc x h => .exc x h
  | .bad => .bad
@[simp] theorem joinT2_ok (a : Str) (y : D) (h : Hd) : joinT2 a (.ok y h) = joinTF a y h := rfl
def joinT1 (mb : ME) (ρ : Env) : Res D → Res O
  | .ok (.str a) h => joinT2 a (mb ρ h)
  | .ok _ _ => .bad
  | .exc x h => .exc x h
  | .bad => .bad
@[simp] theorem joinT1_ok (mb : ME) (ρ : Env) (a : Str) (h : Hd) : joinT1 mb ρ (.ok (.str a) h) = joinT2 a (mb ρ h) := rfl
@[simp] theorem mJoinT_k (ma mb : ME) (ρ : Env) (h : Hd) : mJoinT ma mb ρ h = joinT1 mb ρ (ma ρ h) := by
  unfold mJoinT joinT1
  cases ma ρ h with
  | ok x h1 =>
    cases x with
    | str a => show (mb ρ h1).bind (fun y h => joinTF a y h) = joinT2 a (mb ρ h1); unfold joinT2; cases mb ρ h1 <;> rfl
    | _ => rfl
  | _ => rfl
end
/-! ## a or b, by truth -/
def mOrT (m k : ME) : ME := fun ρ h => (m ρ h).bind fun d h => (optR (truthD h d) h).bind fun b h => if b then .ok d h else k ρ h
section
variable {X : Cx} {W : WX} {a b : Expr} {ma mb : ME} {rest : List Expr} {pos : Pos} {h : Hd}
theorem e_orT (ha : SE X W a ma) (hb : SE X W (.BoolOp .Or (b :: rest) pos) mb) : SE X W (.BoolOp .Or (a :: b :: rest) pos) (mOrT ma mb) := PE.imp (pe_orT ha hb) fun σ H Q q => by
  refine (tP.bind q).mono fun v H1 ⟨w1, ρ, h1, d, e1, s1, r1, p1⟩ => ?_
  obtain ⟨b, eb, p2⟩ := optR_post (R := RB) ((Post.bind (R := RB) p1))
  refine ⟨b, truthD_ok s1 r1 eb, ?_⟩
  obtain ⟨w2, h2, b2, l2, r2, s2, p3⟩ := p2.ret rfl s1
  cases r2
  cases b with
  | true => exact p3.ret (r1.le l2) s2
  | false => exact ⟨w2, ρ, h2, e1.le l2, s2, p3⟩
def orTK2 (k : ME) (ρ : Env) (d : D) (h : Hd) : Option Bool → Res D
  | some b => if b then .ok d h else k ρ h
  | none => .bad
def orTK (k : ME) (ρ : Env) : Res D → Res D
  | .ok d h => orTK2 k ρ d h (truthD h d)
  | .exc x h => .exc x h
  | .bad => .bad
@[simp] theorem orTK2_some (k : ME) (ρ : Env) (d : D) (h : Hd) (b : Bool) : orTK2 k ρ d h (some b) = if b then .ok d h else k ρ h := rfl
@[simp] theorem orTK_ok (k : ME) (ρ : Env) (d : D) (h : Hd) : orTK k ρ (.ok d h) = orTK2 k ρ d h (truthD h d) := rfl
@[simp] theorem mOrT_k (m k : ME) (ρ : Env) (h : Hd) : mOrT m k ρ h = orTK k ρ (m ρ h) := by
  unfold mOrT orTK
  cases m ρ h with
  | ok d h => simp only [Res.bind_ok]; unfold orTK2; cases truthD h d <;> rfl
  | _ => rfl
end
end DD
set_option Elab.async false
set_option linter.all false
set_option maxRecDepth 100000
set_option maxHeartbeats 4000000
namespace DD
open PySem PySem.Spec L2 TL RZ
theorem slen_tl (z : Str) : z.cps.toList.length = z.length := Array.length_toList
/-- a text without its last sign -/
theorem cut_last {a : Str} {c : Nat} : cutS (a ++ sgn c) none (some (-1)) = a := by
  have la : tl a = a.cps.toList := rfl
  have e : (a ++ sgn c).cps.toList = a.cps.toList ++ [c] := by
    have := tl_append a (sgn c)
    exact this
  have l : (a ++ sgn c).length = a.length + 1 := by
    rw [Str.length_append]; rfl
  have s : HT.sIx (a ++ sgn c).length (a ++ sgn c).length (some (-1)) = a.length := by
    show ((-1 : Int) + ((a ++ sgn c).length : Int)).toNat = a.length
    rw [l]
    omega
  unfold cutS
  rw [s, HT.sIx_none, e, List.drop_zero, Nat.sub_zero, ← slen_tl a, List.take_left]
/-- a text without its first sign -/
theorem cut_first {a : Str} {c : Nat} {l : List Nat} (e : tl a = c :: l) : cutS a (some 1) none = ⟨l.toArray⟩ := by
  have la : a.cps.toList = c :: l := e
  have n : a.length = l.length + 1 := by rw [← slen_tl, la]; rfl
  have s : HT.sIx a.length 0 (some 1) = 1 := by
    have := HT.sIx_nat a.length 0 1
    rw [show ((1 : Nat) : Int) = 1 from rfl] at this
    rw [this]; omega
  unfold cutS
  rw [s, HT.sIx_none, la, n]
  simp
theorem starts_sgn {a : Str} {c d : Nat} {l : List Nat} (e : tl a = c :: l) : Txt.startswith a (sgn d) = (c == d) := by
  have la : a.cps.toList = c :: l := e
  have n : a.length = l.length + 1 := by rw [← slen_tl, la]; rfl
  unfold PySem.Txt.startswith
  rw [StrLaws.subAt_eq, la, n]
  show (decide (0 + 1 ≤ l.length + 1) && ((((c :: l).drop 0).take 1) == [d])) = _
  rw [decide_eq_true (by omega)]
  show ([c] == [d]) = _
  simp
end DD
set_option Elab.async false
set_option linter.all false
set_option maxRecDepth 100000
set_option maxHeartbeats 4000000
namespace L2
open PySem PySem.Spec PyProof.Rows
/-! ## a def's promise where no repr is under way -/
structure RoomG (k : Nat) (A : Around) : Prop where
  r : Room k A
  g : A.guards = some []
theorem RoomG.mono {j k : Nat} {A : Around} (r : RoomG k A) (h : j ≤ k) : RoomG j A := ⟨r.r.mono h, r.g⟩
theorem guards_deeper {A : Around} {env : Env} : (A.deeper env).guards = A.guards := by
  first | rfl | simp [Around.deeper]
theorem guards_make {A : Around} {C : Addr} {us : List Value} {kw : List (Str × Value)} : (A.under (.builtin "type.__call__" ⟨.ref C :: us, kw⟩)).guards = A.guards := by
  first | rfl | (cases A; simp [Around.under, Code.isGuard, guardIds, Code.guards, pushGuards])
theorem RoomG.deeper {k : Nat} {A : Around} (r : RoomG (k + 1) A) (env : Env) : RoomG k (A.deeper env) := ⟨r.r.deeper env, guards_deeper.trans r.g⟩
theorem RoomG.make {k : Nat} {A : Around} (r : RoomG (k + 1) A) (C : Addr) (us : List Value) (kw : List (Str × Value)) : RoomG k (A.under (.builtin "type.__call__" ⟨.ref C :: us, kw⟩)) := ⟨r.r.make C us kw, guards_make.trans r.g⟩
structure FnG (P : Program) (w : World) (K : PySem.W.Frag) (mg : Str → Option Value) (base : Heap) (CX : CXT) (k : Nat) (f : Addr) (fd : FuncData) (ps : List Str) (sp : Sp) : Prop where
  len : ∀ vs H Q E, sp vs H Q E → vs.length = ps.length
  run : ∀ (A : Around) (outer : List Env) (s : Shared) (H : Hp) (args : Args) (us : List Value) (vs : List V) (Q : VK) (E : XK), RoomG k A → Env0 P w K mg base A outer s H → BindsTo s fd args (ps.zip us) → Vals vs us → sp vs H Q E →
    codeAny (model P w) A (.call (.ref f) args) (CR CX outer P w H s Q E) s
section
variable {P : Program} {w : World} {K : PySem.W.Frag} {mg : Str → Option Value} {base : Heap} {CX : CXT} {j k : Nat} {f : Addr} {fd : FuncData} {ps N : List Str} {sp sp' : Sp}
theorem FnOk.toG (F : FnOk P w K mg base CX k f fd ps sp) : FnG P w K mg base CX k f fd ps sp := ⟨F.len, fun A outer s H args us vs Q E hr => F.run A outer s H args us vs Q E hr.r⟩
theorem FnG.mono (F : FnG P w K mg base CX j f fd ps sp) (h : j ≤ k) : FnG P w K mg base CX k f fd ps sp := ⟨F.len, fun A outer s H args us vs Q E hr => F.run A outer s H args us vs Q E (hr.mono h)⟩
theorem FnG.imp (F : FnG P w K mg base CX k f fd ps sp) (h : ∀ vs H Q E, sp' vs H Q E → sp vs H Q E) : FnG P w K mg base CX k f fd ps sp' :=
  ⟨fun vs H Q E q => F.len vs H Q E (h _ _ _ _ q), fun A outer s H args us vs Q E hr he hb hv hs => F.run A outer s H args us vs Q E hr he hb hv (h _ _ _ _ hs)⟩
theorem fn_ofG {name qual : Str} {params : Arguments} {body : List Stmt} {scope : Scope} {dV kV doc pm cdv ct oc : Value} {an od : Option Addr} {osl : Array (Option Value)} (lk : K.lookup f = some ⟨oc, od, .func (PySem.W.fnOf name qual params body scope dV kV doc pm an cdv ct), osl⟩)
    (hcd : PySem.W.codeIn K cdv qual = true) (S : FnScope N ps scope) (len : ∀ vs H Q E, sp vs H Q E → vs.length = ps.length)
    (hbody : ∀ (A : Around) (outer : List Env) (s : Shared) (H : Hp) (vs : List V) (Q : VK) (E : XK), RoomG k (A.deeper (envOfC qual scope s.heap.objs.size f cdv)) → sp vs H Q E →
      ∃ t, PSs (cxOf CX P w K mg base N qual scope f cdv A outer s H E) body t ∧ t { nx := fun _ H' => Q .non H', rt := Q } (start N vs) H) :
    FnG P w K mg base CX (k + 1) f (PySem.W.fnOf name qual params body scope dV kV doc pm an cdv ct) ps sp :=
  ⟨len, fun A outer s H args us vs Q E hr e0 hb r hsp => LamX.run_ofS lk hcd S hr.r e0 hb r (len _ _ _ _ hsp) fun _ => hbody A outer s H vs Q E (hr.deeper _) hsp⟩
end
/-- the law's call, where its def promises for no repr under way -/
theorem law_callG {P : Program} {w : World} {K : PySem.W.Frag} {mg mb : Str → Option Value} {CX : CXT} {k : Nat} {fa a : Addr} {fd : FuncData} {x : Str} {sp : Sp} {s₁ : Shared} {vs : List Value} {ns : List Int}
    (KX : K.In s₁.heap) (hns : s₁.heap.Ns mainGlobals mg) (hb : s₁.heap.Ns builtinsNs mb) (hbb : ∀ x : Str, x ≠ "__name__" → mb x = bootBuiltins x) (hlim : s₁.heap.NoLimit) (hg : s₁.gens = #[])
    (ha : s₁.heap.get? a = some { cls := .type "list", data := .seq vs.toArray }) (hi : IntsAre vs ns) (hl : ns.length ≤ sizeLine) (hr : RoomG k callerA)
    (F : ∀ base : Heap, K.In base → base.Ns mainGlobals mg → FnG P w K mg base CX k fa fd [x] sp) (hbind : ∀ (s : Shared) (u : Value), BindsTo s fd ⟨[u], []⟩ [(x, u)])
    (hsp : ∀ H : Hp, Only H → SqL K H a (ns.map V.int) → sp [.ref a] H (fun v _ => v = .bl true) fun _ _ _ => False)
    (hCX : ∀ H e s', CX [] H s₁ (fun _ _ _ => False) e s' → False) :
    codeAny (model P w) callerA (.call (.ref fa) ⟨[.ref a], []⟩) (fun r s' => r = .ok (.ret (.bool true)) ∧ OldK s₁.heap s'.heap ∧ s'.os = s₁.os ∧ AllBare s'.gens) s₁ := by
  have rv := vals_ints hi
  have go : ∀ H : Hp, Only H → SqL K H a (ns.map V.int) → HOk P w H s₁.heap → (∀ b, H b ≠ none → b = a ∧ K.lookup a = none) →
      codeAny (model P w) callerA (.call (.ref fa) ⟨[.ref a], []⟩) (fun r s' => r = .ok (.ret (.bool true)) ∧ OldK s₁.heap s'.heap ∧ s'.os = s₁.os ∧ AllBare s'.gens) s₁ := by
    intro H only seq hok off
    have untracked : ∀ {b : Addr} {o : Obj}, s₁.heap.get? b = some o → (∀ n, o.data ≠ .seq vs.toArray n) → H b = none := fun {b o} e d => by
      cases q : H b with
      | none => rfl
      | some u =>
        obtain ⟨rfl, _⟩ := off b (by rw [q]; simp)
        rw [ha] at e; cases e
        exact absurd rfl (d _)
    have keepNs : ∀ {b : Addr} {m : Str → Option Value}, s₁.heap.Ns b m → (hidT s₁.heap H).Ns b m := fun {b m} ⟨o, es, ep, e, d, r⟩ => ⟨o, es, ep, hidT_get e (untracked e fun n z => by rw [d] at z; cases z), d, r⟩
    have kin : K.In (hidT s₁.heap H) := fun b o e => hidT_get (KX b o e) (by
      cases q : H b with
      | none => rfl
      | some u =>
        obtain ⟨rfl, hk⟩ := off b (by rw [q]; simp)
        rw [hk] at e; cases e)
    have md : Mod K mg (hidT s₁.heap H) := ⟨kin, keepNs hns, ⟨mb, keepNs hb, hbb⟩, let ⟨mc, h1, h2⟩ := hlim; ⟨mc, keepNs h1, h2⟩⟩
    have e0 : Env0 P w K mg (hidT s₁.heap H) callerA [] s₁ H := ⟨rfl, md, fun b o e => of_hidT e, Nat.le_of_eq (hidT_size _ _), trivial, fun b hb => absurd (show b ∈ ([] : List Addr) from hb) (by simp), hok, .of_eq hg⟩
    refine codeAny_mono ((F _ kin (keepNs hns)).run callerA [] s₁ H ⟨[.ref a], []⟩ [.ref a] [.ref a] _ _ hr e0 (hbind s₁ (.ref a)) (.cons rfl .nil) (hsp H only seq)) fun r s' h => ?_
    match r, h with
    | .error e, h => exact (hCX H e s' h).elim
    | .ok .next, h => exact h.elim
    | .ok .brk, h => exact h.elim
    | .ok .cont, h => exact h.elim
    | .ok (.ret u), h =>
      obtain ⟨v, H', os, bare, un, hok', r', q⟩ := h
      have q' : v = .bl true := q
      subst q'
      obtain rfl : u = Value.bool true := r'
      refine ⟨rfl, OldK.of_keep fun b o e => ?_, os, bare⟩
      rcases only b with z | ⟨ob, xs, z⟩
      · exact un.keep b o e z (by intro z; exact absurd (show b ∈ ([] : List Addr) from z) (by simp)) (by simp)
      · obtain ⟨e1, _⟩ := hok b _ z
        obtain ⟨e2, _⟩ := hok' b _ (un.frzs b ob _ z)
        rw [e] at e1; cases e1
        exact e2
  cases hk : K.lookup a with
  | some o =>
    have e := KX a o hk
    rw [ha] at e
    cases e
    exact go (fun _ => none) (fun _ => .inl rfl) (.inr ⟨_, vs.toArray, _, hk, rfl, rfl, rfl, by rw [List.size_toArray, hi.length]; exact hl, by simpa using rv⟩) (fun b u z => by cases z) fun b z => absurd rfl z
  | none =>
    refine go (fun b => if b = a then some (.frz { cls := .type "list", data := .seq vs.toArray } (.lst (ns.map V.int))) else none) (fun b => ?_) (.inl (.inr ⟨{ cls := .type "list", data := .seq vs.toArray }, if_pos rfl⟩)) (fun b u z => ?_) fun b z => ?_
    · by_cases hb : b = a
      · exact .inr ⟨_, _, if_pos hb⟩
      · exact .inl (if_neg hb)
    · by_cases hb : b = a
      · have z' := (if_pos hb).symm.trans z
        cases z'
        subst hb
        exact ⟨ha, by rw [List.length_map]; exact hl, vs, _, rv, ha⟩
      · have z' := (if_neg hb).symm.trans z
        cases z'
    · by_cases hb : b = a
      · exact ⟨hb, hk⟩
      · exact absurd (if_neg hb) z
theorem walk_ofG {l : PySem.W.OpenLaw} {n k : Nat} {q : Program} {loose : List Str} {XP : (Str → Option Value) → Heap → Prop} {YP : World → Heap → Prop} {d : DefRec} {K : Params → PySem.W.Frag} {CX : World → CXT} {sp : World → Sp} {x : Str}
    (hn : l.most = some n) (hn2 : n ≤ sizeLine) (hdf : d.params.defaults = []) (hr : RoomG k callerA) (hY : ∀ (w : World) (h : Heap), YP w h → (K w.params).In h)
    (F : ∀ (w : World) (mg : Str → Option Value) (fa : Addr) (h : Heap), (K w.params).In h → h.Ns mainGlobals mg → mg d.name = some (.ref fa) →
      ∃ fd : FuncData, (∀ (s : Shared) (u : Value), BindsTo s fd ⟨[u], []⟩ [(x, u)]) ∧ ∀ base : Heap, (K w.params).In base → base.Ns mainGlobals mg → FnG l.prog w (K w.params) mg base (CX w) k fa fd [x] (sp w))
    (hsp : ∀ (w : World) (H : Hp) (a : Addr) (ns : List Int), ns.length ≤ n → Only H → SqL (K w.params) H a (ns.map V.int) → sp w [.ref a] H (fun v _ => v = .bl true) fun _ _ _ => False)
    (hCX : ∀ (w : World) (H : Hp) (s : Shared) (e : Value) (s' : Shared), CX w [] H s (fun _ _ _ => False) e s' → False) :
    PySem.W.WalkO q loose XP YP l.row.toRowW d [] (fun f vs => PySem.call f vs) := by
  refine Att.attach_call hn hdf fun w s₀ s₁ mg mb fa o pm cd doc a vs ns G Y ho hd hcd hmg hobj hints hlen hg => ?_
  have KX := hY w _ Y
  obtain ⟨fd, hb, hF⟩ := F w mg fa _ KX G.T.g hmg
  exact law_callG KX G.T.g G.T.b G.T.builtins G.T.nolimit hg hobj hints (Nat.le_trans hlen hn2) hr hF hb (fun H hO hS => hsp w H a ns hlen hO hS) fun H e s' => hCX w H s₁ e s'
end L2
namespace DD
open PySem PySem.Spec L2 RZ
theorem law_endG {P : Program} {w : World} {K : PySem.W.Frag} {mg : Str → Option Value} {base : Heap} {k : Nat} {f : Addr} {fd : FuncData} {ps : List Str} {m : List D → Hd → Res D} (F : FnG P w K mg base (L2.CX P w) k f fd ps (spM ⟨K, mg⟩ 1 m))
    (h : ∀ ns : List Int, ns.length ≤ 63 → ∃ h', m [.rol (ns.map .int)] [] = .ok (.bl true) h') (off : lamOn = false := by rfl) : FnG P w K mg base (L2.CX P w) k f fd ps (spL K) :=
  F.imp fun vs H Q E ⟨a, ns, e, hq, hl, hO, q⟩ => by
    subst e
    obtain ⟨h', eh⟩ := h ns hl
    refine ⟨_, [.rol (ns.map .int)], [], .one ?_, sr_first fun P l => absurd l.1 (by rw [off]; decide), rfl, ?_⟩
    · simp only [VR]; exact ⟨a, ns.map V.int, rfl, SqL_unT hq, VRs_ints ns⟩
    · rw [eh]
      intro v w' H' l r s
      simp only [VR] at r
      subst r
      exact q H'
theorem walkG {l : PySem.W.OpenLaw} {q : Program} {loose : List Str} {XP : (Str → Option Value) → Heap → Prop} {YP : World → Heap → Prop} {d : DefRec} {K : Params → PySem.W.Frag} {k : Nat} {x : Str} (hn : l.most = some 63) (hdf : d.params.defaults = []) (hr : RoomG k callerA)
    (hY : ∀ (w : World) (h : Heap), YP w h → (K w.params).In h)
    (F : ∀ (w : World) (mg : Str → Option Value) (fa : Addr) (h : Heap), (K w.params).In h → h.Ns mainGlobals mg → mg d.name = some (.ref fa) →
      ∃ fd : FuncData, (∀ (s : Shared) (u : Value), BindsTo s fd ⟨[u], []⟩ [(x, u)]) ∧ ∀ base : Heap, (K w.params).In base → base.Ns mainGlobals mg → FnG l.prog w (K w.params) mg base (L2.CX l.prog w) k fa fd [x] (spL (K w.params))) :
    PySem.W.WalkO q loose XP YP l.row.toRowW d [] (fun f vs => PySem.call f vs) :=
  L2.walk_ofG (n := 63) (k := k) (x := x) (CX := fun w => L2.CX l.prog w) (sp := fun w => spL (K w.params)) hn (by decide) hdf hr hY F (fun _ _ a ns hl hO hS => ⟨a, ns, rfl, hS, hl, hO, fun _ => rfl⟩) fun _ _ _ _ _ z => by
    obtain ⟨_, _, _, _, _, _, _, _, _, _, _, _, z⟩ := z
    exact z
theorem room_caller {k : Nat} (hr : Room k callerA) : RoomG k callerA := ⟨hr, rfl⟩
end DD
set_option Elab.async false
set_option linter.all false
set_option maxRecDepth 100000
set_option maxHeartbeats 4000000
namespace DD
open PySem PySem.Spec L2 RZ
/-! ## an own cell freezes where its value is read for the last time -/
def frzD : D → Hd → Res D
  | .ref r, h => match h[r]? with
    | some (.lst xs) => .ok (.lst xs) (h.set r .gone)
    | some (.dct ks us) => .ok (.dct ks us) (h.set r .gone)
    | some (.dtt ks us) => .ok (.dtt ks us) (h.set r .gone)
    | some (.ins n ns us) => .ok (.ins n ns us) (h.set r .gone)
    | _ => .bad
  | d, h => .ok d h
def mFrz (m : ME) : ME := fun ρ h => (m ρ h).bind frzD
section
variable {X : Cx} {W : WX} {e : Expr} {m : ME}
theorem frzD_ref {r : Nat} {h : Hd} {z : Cell} (e : h[r]? = some z) (g : z ≠ .gone) : frzD (.ref r) h = .ok (fzC z) (h.set r .gone) := by
  cases z with
  | gone => exact absurd rfl g
  | _ => simp only [frzD, e, fzC]
theorem frzD_post {c : Ct} {w : Wd} {σ : L2.St} {h : Hd} {H : Hp} {d : D} {v : V} {Q : VK} (s : SR c w h H) (r : VR c w d v) (p : Post (RV c) c w W σ (frzD d h) Q) :
    Q v H ∨ ∃ a u, H a = some u ∧ Mut (some u) ∧ ∀ od, Q v (upd H a (.frz od u)) := by
  cases d with
  | ref n =>
    have nb : ∃ z, h[n]? = some z ∧ z ≠ .gone := by
      cases q : h[n]? with
      | none => simp only [frzD, q] at p; exact p.elim
      | some z =>
        refine ⟨z, rfl, fun e => ?_⟩
        subst e
        simp only [frzD, q] at p
        exact p.elim
    obtain ⟨z, ez, g⟩ := nb
    rw [frzD_ref ez g] at p
    have r' := r
    simp only [VR] at r'
    obtain ⟨a, rfl, f⟩ := r'
    obtain ⟨a', q1, q2, q3, k⟩ := s.cell n z ez g
    rw [f] at q1; cases q1
    obtain ⟨o, eo⟩ := k.some g
    have pl := k.plain g eo
    by_cases hd : isDc z = true
    · refine .inr ⟨a, o, eo, ?_, fun od => ?_⟩
      · cases z with
        | dct ks us => obtain ⟨kvs, q, _⟩ := k; rw [q] at eo; cases eo; trivial
        | dtt ks us => obtain ⟨kvs, q, _⟩ := k; rw [q] at eo; cases eo; trivial
        | _ => cases hd
      · -- the cell is written with its own entries, then frozen as it lies
        have k2 : ∀ w', Le w w' → w'.F a = some (.frz od o) → VR c w' (fzC z) (.ref a) := fun w' l e => VR_fz (od := od) k g eo l (by unfold fzO; rw [if_pos hd]; exact e)
        obtain ⟨l, s'⟩ := s.freezeAs ez g f eo (plain_frz od o)
        exact p _ _ _ l (k2 _ l upd_same) s'
    · obtain ⟨l, s'⟩ := s.freeze (u := o) ez g f eo pl
      exact .inl (p _ _ _ l (VR_fz (od := ⟨.none, none, .fields #[], #[]⟩) k g eo l (by unfold fzO; rw [if_neg hd]; exact upd_same)) s')
  | _ => exact .inl (p.ret r s)
theorem e_frz (h : SE X W e m) : SE X W e (mFrz m) := PE.imp (pe_lockP h) fun σ H Q q => by
  refine (tP.bind q).mono fun v H1 ⟨w1, ρ, h1, d, e1, s1, r1, p1⟩ => ?_
  exact frzD_post s1 r1 p1
def frzK : Res D → Res D
  | .ok d h => frzD d h
  | .exc x h => .exc x h
  | .bad => .bad
@[simp] theorem frzK_ok (d : D) (h : Hd) : frzK (.ok d h) = frzD d h := rfl
@[simp] theorem mFrz_k (m : ME) (ρ : Env) (h : Hd) : mFrz m ρ h = frzK (m ρ h) := by unfold mFrz frzK; cases m ρ h <;> rfl
end
end DD
set_option Elab.async false
set_option linter.all false
set_option maxRecDepth 100000
set_option maxHeartbeats 4000000
namespace L2
open PySem PySem.Spec PyProof.Rows
section
variable {X : Cx} {CX : CXT} {k n : Nat} {f C : Addr} {fd : FuncData} {ps ks : List Str} {sp : Sp} {E : St → XK} {x m : Str} {p pos apos : Pos} {e o : Expr} {es : List Expr} {kws : List Keyword} {ta : TE} {t tk : TA} {g : List Value → List Value → List Value} {gV : List V → List V → List V}
/-- a call of any shape: the positional values, then the keywords' ones -/
def tCalG (n j : Nat) (sp : Sp) (gV : List V → List V → List V) (E : St → XK) (t tk : TA) : TE := fun σ H Q => t σ H fun vs H2 => tk σ H2 fun zs H3 => vs.length = n ∧ zs.length = j ∧ sp (gV vs zs) H3 Q (E σ)
/-- a method's call of any shape -/
def tMthG (C : Addr) (m : Str) (n j : Nat) (sp : Sp) (gV : List V → List V → List V) (E : St → XK) (ta : TE) (t tk : TA) : TE := fun σ H Q => ta σ H fun x H1 => ∃ a dx fs, x = .ref a ∧ H1 a = some (.ins C dx fs) ∧ fs.lookup m = none ∧
  t σ H1 fun vs H2 => tk σ H2 fun zs H3 => vs.length = n ∧ zs.length = j ∧ sp (gV (x :: vs) zs) H3 Q (E σ)
/-- a making of any shape -/
def tMakG (C : Addr) (n j : Nat) (sp : Sp) (gV : List V → List V → List V) (E : St → XK) (t tk : TA) : TE := fun σ H Q => t σ H fun vs H1 => tk σ H1 fun zs H2 => vs.length = n ∧ zs.length = j ∧
  ∀ x dx, H2 x = none → H2 dx = none → dx ≠ x → sp (gV (.ref x :: vs) zs) (upd (upd H2 dx (.own x)) x (.ins C dx [])) (fun v H3 => v = .non ∧ Q (.ref x) H3) (E σ)
theorem run_fnG {pins : List (Addr × Obj)} {σ : St} {H : Hp} {s : Shared} {Q : VK} {us ws : List Value} {vs zs : List V} (F : FnG X.prog X.w X.K X.mg X.base CX k f fd ps sp) (hr : RoomG k X.A) (hb : KBn X.K fd ps n ks g gV) (hx : PassesAt CX X σ (E σ))
    (I : Inv X pins σ H s) (rv : Vals vs us) (rw_ : Vals zs ws) (hn : vs.length = n) (hj : zs.length = ks.length) (want : sp (gV vs zs) H Q (E σ)) : wpAny (model X.prog X.w) X.A (call (.ref f) us (ks.zip ws)) (EP X pins σ Q) X.xe s := by
  have bt := hb.to s us ws I.kIn (by rw [← rv.length, hn]) (by rw [← rw_.length, hj])
  refine wpAny_call (codeAny_mono (F.run X.A X.stack s H ⟨us, ks.zip ws⟩ (g us ws) (gV vs zs) Q (E σ) hr I.env0 bt (hb.rel rv rw_) want) fun res s2 hres => ?_)
  match res, hres with
  | .error er, hres => exact hx pins H s er s2 I hres
  | .ok (.ret u), hres => exact I.after hres
  | .ok .next, hres => exact hres.elim
  | .ok .brk, hres => exact hres.elim
  | .ok .cont, hres => exact hres.elim
theorem run_makG {pins : List (Addr × Obj)} {σ : St} {H : Hp} {s : Shared} {Q : VK} {us ws : List Value} {vs zs : List V} (M : Mk X.K C f) (F : FnG X.prog X.w X.K X.mg X.base CX k f fd ps sp) (hr : RoomG (k + 1) X.A) (hb : KBn X.K fd ps (n + 1) ks g gV) (hx : PassesAt CX X σ (E σ))
    (I : Inv X pins σ H s) (rv : Vals vs us) (rw_ : Vals zs ws) (hn : vs.length = n) (hj : zs.length = ks.length)
    (want : ∀ x dx, H x = none → H dx = none → dx ≠ x → sp (gV (.ref x :: vs) zs) (upd (upd H dx (.own x)) x (.ins C dx [])) (fun v H3 => v = .non ∧ Q (.ref x) H3) (E σ)) : wpAny (model X.prog X.w) X.A (call (.ref C) us (ks.zip ws)) (EP X pins σ Q) X.xe s := by
  have w1 := want (s.heap.objs.size + 1) s.heap.objs.size (I.hok.fresh (Nat.le_succ _)) (I.hok.fresh (Nat.le_refl _)) (Nat.ne_of_lt (Nat.lt_succ_self _))
  have J := Inv.made (C := C) I
  have rv2 : Vals (V.ref (s.heap.objs.size + 1) :: vs) (Value.ref (s.heap.objs.size + 1) :: us) := .cons rfl rv
  have bt := hb.to _ (Value.ref (s.heap.objs.size + 1) :: us) ws J.kIn (by rw [← rv2.length, List.length_cons, hn]) (by rw [← rw_.length, hj])
  refine wpAny_call (make_map (f := f) I.kIn M.makes M.init (beq_iff_eq.mp M.fn) (codeAny_mono (F.run _ X.stack _ _ ⟨Value.ref (s.heap.objs.size + 1) :: us, ks.zip ws⟩ (g (Value.ref (s.heap.objs.size + 1) :: us) ws) _ _ (E σ) (hr.make C us (ks.zip ws))
    (J.env0.make C us (ks.zip ws)) bt (hb.rel rv2 rw_) w1) fun res s2 hres => ?_))
  match res, hres with
  | .error er, hres => exact hx pins _ _ er s2 J hres
  | .ok (.ret u), hres =>
    obtain ⟨v, H3, J2, ru, ev, q⟩ := J.after hres
    subst ev
    exact ⟨ru, ⟨V.ref (s.heap.objs.size + 1), H3, J2, rfl, q⟩⟩
  | .ok .next, hres => exact hres.elim
  | .ok .brk, hres => exact hres.elim
  | .ok .cont, hres => exact hres.elim
section
variable (hall : (backToKw pos (keywordEach kws X.env)).all (·.1.isSome) = true) (hks : (backToKw pos (keywordEach kws X.env)).filterMap (·.1) = ks)
/-- f(e, .., k = v, ..) -/
theorem pe_calG (F : FnG X.prog X.w X.K X.mg X.base CX k f fd ps sp) (hr : RoomG k X.A) (hg : Gl X x) (hm : X.mg x = some (.ref f)) (hk : PySem.W.keepIn X.K (.ref f) = true) (hb : KBn X.K fd ps n ks g gV) (hx : ∀ σ, PassesAt CX X σ (E σ)) (ha : PA X (e :: es) t) (hkw : PK X kws tk)
    (hall : (backToKw pos (keywordEach kws X.env)).all (·.1.isSome) = true) (hks : (backToKw pos (keywordEach kws X.env)).filterMap (·.1) = ks) (hdb : (x == ("__debug__" : Str)) = false)
    (hst : starEach (e :: es) X.env = (false, eval e X.env) :: starEach es X.env) (hpl : ((backTo pos (starEach (e :: es) X.env)).any (·.1) || (backToKw pos (keywordEach kws X.env)).any (·.1.isNone)) = false) : PE X (.Call (.Name x p) (e :: es) kws pos) (tCalG n ks.length sp gV E t tk) := by
  refine ⟨fun pins s σ H Q I want => wpAny_Call_Name_kw (ld_glob I hg hm (PySem.W.callWith_KW (h₀ := X.base) I.ok.mod.kin hk hall (thn (ha.run pos pins s σ H _ I want) fun us s1 ⟨vs, H1, I1, rv, q⟩ =>
    thn (hkw.run pos pins s1 σ H1 _ I1 q) fun ws s2 ⟨zs, H2, I2, rz, l1, l2, q2⟩ => ⟨I2.kIn, ?_⟩) hpl hst) hdb)⟩
  rw [hks]
  exact run_fnG F hr hb (hx σ) I2 rv rz l1 l2 q2
/-- f(k = v, ..), f() -/
theorem pe_calG0 (F : FnG X.prog X.w X.K X.mg X.base CX k f fd ps sp) (hr : RoomG k X.A) (hg : Gl X x) (hm : X.mg x = some (.ref f)) (hk : PySem.W.keepIn X.K (.ref f) = true) (hb : KBn X.K fd ps 0 ks g gV) (hx : ∀ σ, PassesAt CX X σ (E σ)) (hkw : PK X kws tk)
    (hall : (backToKw pos (keywordEach kws X.env)).all (·.1.isSome) = true) (hks : (backToKw pos (keywordEach kws X.env)).filterMap (·.1) = ks) (hdb : (x == ("__debug__" : Str)) = false)
    (hpl : ((backTo pos (starEach [] X.env)).any (·.1) || (backToKw pos (keywordEach kws X.env)).any (·.1.isNone)) = false) : PE X (.Call (.Name x p) [] kws pos) (tCalG 0 ks.length sp gV E tNil tk) := by
  refine ⟨fun pins s σ H Q I want => wpAny_Call_Name_kw (ld_glob I hg hm (PySem.W.callWith_KW0 (h₀ := X.base) I.ok.mod.kin hk hall (thn (hkw.run pos pins s σ H _ I want) fun ws s2 ⟨zs, H2, I2, rz, l1, l2, q2⟩ => ⟨I2.kIn, ?_⟩) hpl) hdb)⟩
  rw [hks]
  exact run_fnG (us := []) (vs := []) F hr hb (hx σ) I2 .nil rz l1 l2 q2
/-- C(e, .., k = v, ..) -/
theorem pe_makG (M : Mk X.K C f) (F : FnG X.prog X.w X.K X.mg X.base CX k f fd ps sp) (hr : RoomG (k + 1) X.A) (hg : Gl X x) (hm : X.mg x = some (.ref C)) (hb : KBn X.K fd ps (n + 1) ks g gV) (hx : ∀ σ, PassesAt CX X σ (E σ)) (ha : PA X (e :: es) t) (hkw : PK X kws tk)
    (hall : (backToKw pos (keywordEach kws X.env)).all (·.1.isSome) = true) (hks : (backToKw pos (keywordEach kws X.env)).filterMap (·.1) = ks) (hdb : (x == ("__debug__" : Str)) = false)
    (hst : starEach (e :: es) X.env = (false, eval e X.env) :: starEach es X.env) (hpl : ((backTo pos (starEach (e :: es) X.env)).any (·.1) || (backToKw pos (keywordEach kws X.env)).any (·.1.isNone)) = false) : PE X (.Call (.Name x p) (e :: es) kws pos) (tMakG C n ks.length sp gV E t tk) := by
  refine ⟨fun pins s σ H Q I want => wpAny_Call_Name_kw (ld_glob I hg hm (PySem.W.callWith_KW (h₀ := X.base) I.ok.mod.kin M.kp hall (thn (ha.run pos pins s σ H _ I want) fun us s1 ⟨vs, H1, I1, rv, q⟩ =>
    thn (hkw.run pos pins s1 σ H1 _ I1 q) fun ws s2 ⟨zs, H2, I2, rz, l1, l2, q2⟩ => ⟨I2.kIn, ?_⟩) hpl hst) hdb)⟩
  rw [hks]
  exact run_makG M F hr hb (hx σ) I2 rv rz l1 l2 q2
theorem pe_makG0 (M : Mk X.K C f) (F : FnG X.prog X.w X.K X.mg X.base CX k f fd ps sp) (hr : RoomG (k + 1) X.A) (hg : Gl X x) (hm : X.mg x = some (.ref C)) (hb : KBn X.K fd ps (0 + 1) ks g gV) (hx : ∀ σ, PassesAt CX X σ (E σ)) (hkw : PK X kws tk)
    (hall : (backToKw pos (keywordEach kws X.env)).all (·.1.isSome) = true) (hks : (backToKw pos (keywordEach kws X.env)).filterMap (·.1) = ks) (hdb : (x == ("__debug__" : Str)) = false)
    (hpl : ((backTo pos (starEach [] X.env)).any (·.1) || (backToKw pos (keywordEach kws X.env)).any (·.1.isNone)) = false) : PE X (.Call (.Name x p) [] kws pos) (tMakG C 0 ks.length sp gV E tNil tk) := by
  refine ⟨fun pins s σ H Q I want => wpAny_Call_Name_kw (ld_glob I hg hm (PySem.W.callWith_KW0 (h₀ := X.base) I.ok.mod.kin M.kp hall (thn (hkw.run pos pins s σ H _ I want) fun ws s2 ⟨zs, H2, I2, rz, l1, l2, q2⟩ => ⟨I2.kIn, ?_⟩) hpl) hdb)⟩
  rw [hks]
  exact run_makG (us := []) (vs := []) M F hr hb (hx σ) I2 .nil rz l1 l2 q2
/-- o.m(e, .., k = v, ..) -/
theorem pe_mthG {pl : Sem Bool} (he : PE X o ta) (c : Cls X.K C) (hm : Meth X.K C m f) (F : FnG X.prog X.w X.K X.mg X.base CX k f fd ps sp) (hr : RoomG k X.A) (hb : KBn X.K fd ps (n + 1) ks g gV) (hx : ∀ σ, PassesAt CX X σ (E σ)) (ha : PA X (e :: es) t) (hkw : PK X kws tk)
    (hall : (backToKw pos (keywordEach kws X.env)).all (·.1.isSome) = true) (hks : (backToKw pos (keywordEach kws X.env)).filterMap (·.1) = ks)
    (hst : starEach (e :: es) X.env = (false, eval e X.env) :: starEach es X.env) (hpl : ((backTo pos (starEach (e :: es) X.env)).any (·.1) || (backToKw pos (keywordEach kws X.env)).any (·.1.isNone)) = false)
    (hev : eval (.Call (.Attribute o m apos) (e :: es) kws pos) X.env = (do
      let ov ← eval o X.env
      standAt apos.atName
      let (f, first) ← holding [ov] (getMethod ov m pl)
      callWith pos f first (backTo pos (starEach (e :: es) X.env)) (backToKw pos (keywordEach kws X.env)))) : PE X (.Call (.Attribute o m apos) (e :: es) kws pos) (tMthG C m n ks.length sp gV E ta t tk) := by
  refine ⟨fun pins s σ H Q I want => PySem.W.methodCall_KW (pl := pl) (thn (he.run pins s σ H _ I want) fun u s1 ⟨x, H1, I1, rx, a, dx, fs, ex, ea, l, q⟩ => ?_) hev⟩
  subst ex
  obtain rfl : u = Value.ref a := rx
  refine getmeth_ok I1 ea c hm l (PySem.W.callWith_KW (first := [.ref a]) (h₀ := X.base) I.ok.mod.kin hm.kp hall (thn (ha.run pos pins s1 σ H1 _ I1 q) fun us s2 ⟨vs, H2, I2, rv, q2⟩ =>
    thn (hkw.run pos pins s2 σ H2 _ I2 q2) fun ws s3 ⟨zs, H3, I3, rz, l1, l2, q3⟩ => ⟨I3.kIn, ?_⟩) hpl hst)
  rw [hks]
  exact run_fnG (us := .ref a :: us) (vs := .ref a :: vs) F hr hb (hx σ) I3 (.cons rfl rv) rz (congrArg Nat.succ l1) l2 q3
theorem pe_mthG0 {pl : Sem Bool} (he : PE X o ta) (c : Cls X.K C) (hm : Meth X.K C m f) (F : FnG X.prog X.w X.K X.mg X.base CX k f fd ps sp) (hr : RoomG k X.A) (hb : KBn X.K fd ps (0 + 1) ks g gV) (hx : ∀ σ, PassesAt CX X σ (E σ)) (hkw : PK X kws tk)
    (hall : (backToKw pos (keywordEach kws X.env)).all (·.1.isSome) = true) (hks : (backToKw pos (keywordEach kws X.env)).filterMap (·.1) = ks)
    (hpl : ((backTo pos (starEach [] X.env)).any (·.1) || (backToKw pos (keywordEach kws X.env)).any (·.1.isNone)) = false)
    (hev : eval (.Call (.Attribute o m apos) [] kws pos) X.env = (do
      let ov ← eval o X.env
      standAt apos.atName
      let (f, first) ← holding [ov] (getMethod ov m pl)
      callWith pos f first (backTo pos (starEach [] X.env)) (backToKw pos (keywordEach kws X.env)))) : PE X (.Call (.Attribute o m apos) [] kws pos) (tMthG C m 0 ks.length sp gV E ta tNil tk) := by
  refine ⟨fun pins s σ H Q I want => PySem.W.methodCall_KW (pl := pl) (thn (he.run pins s σ H _ I want) fun u s1 ⟨x, H1, I1, rx, a, dx, fs, ex, ea, l, q⟩ => ?_) hev⟩
  subst ex
  obtain rfl : u = Value.ref a := rx
  refine getmeth_ok I1 ea c hm l (PySem.W.callWith_KW0 (first := [.ref a]) (h₀ := X.base) I.ok.mod.kin hm.kp hall (thn (hkw.run pos pins s1 σ H1 _ I1 q) fun ws s3 ⟨zs, H3, I3, rz, l1, l2, q3⟩ => ⟨I3.kIn, ?_⟩) hpl)
  rw [hks]
  exact run_fnG (us := [.ref a]) (vs := [.ref a]) F hr hb (hx σ) I3 (.cons rfl .nil) rz rfl l2 q3
end
end
end L2
set_option Elab.async false
set_option linter.all false
set_option maxRecDepth 100000
set_option maxHeartbeats 4000000
namespace DD
open PySem PySem.Spec L2 RZ
/-! ## instances: fields, methods, making -/
/-- a class of the program, by its name -/
structure ClsV (K : PySem.W.Frag) (mg : Str → Option Value) (n : Str) (C : Addr) : Prop where
  m : mg n = some (.ref C)
  c : Cls K C
/-- the fields of an instance of a class -/
def insOf (h : Hd) (n : Str) : D → Option (List Str × List D)
  | .ref r => match h[r]? with
    | some (.ins n' ns us) => if n' = n then some (ns, us) else none
    | _ => none
  | .ins n' ns us => if n' = n then some (ns, us) else none
  | _ => none
def lookL (f : Str) : List Str → List D → Option D
  | n :: ns, u :: us => if f = n then some u else lookL f ns us
  | _, _ => none
section
variable {c : Ct} {w : Wd} {h : Hd} {H : Hp} {d : D} {v : V} {n : Str} {ns : List Str} {us : List D}
theorem insOf_ok (s : SR c w h H) (r : VR c w d v) (e : insOf h n d = some (ns, us)) : ∃ (a C dx : Addr) (fs : List (Str × V)), v = .ref a ∧ c.mg n = some (.ref C) ∧ H a = some (.ins C dx fs) ∧ ns = fs.map (·.1) ∧ VRs c w us (fs.map (·.2)) ∧ ∀ f ∈ ns, NoAttr c.K C f := by
  cases d with
  | ref k =>
    simp only [insOf] at e
    split at e
    · rename_i n' ns' us' ex
      split at e
      · rename_i en
        subst en
        simp only [Option.some.injEq, Prod.mk.injEq] at e
        obtain ⟨rfl, rfl⟩ := e
        simp only [VR] at r
        obtain ⟨a, rfl, f⟩ := r
        obtain ⟨b, q1, _, _, C, dx, fs, m, q, k, z, na⟩ := s.cell _ _ ex (by intro z; cases z)
        rw [f] at q1; cases q1
        exact ⟨a, C, dx, fs, rfl, m, q, k, z, na⟩
      · cases e
    · cases e
  | ins n' ns' us' =>
    simp only [insOf] at e
    split at e
    · rename_i en
      subst en
      simp only [Option.some.injEq, Prod.mk.injEq] at e
      obtain ⟨rfl, rfl⟩ := e
      simp only [VR] at r
      obtain ⟨a, C, dx, fs, rfl, m, q, k, z, na⟩ := r
      exact ⟨a, C, dx, fs, rfl, m, s.F _ _ q, k, z, na⟩
    · cases e
  | _ => cases e
theorem lookL_ok {f : Str} : ∀ {us : List D} {fs : List (Str × V)} {x : D}, VRs c w us (fs.map (·.2)) → lookL f (fs.map (·.1)) us = some x → ∃ v, fs.lookup f = some v ∧ VR c w x v ∧ f ∈ fs.map (·.1)
  | [], [], x, _, e => by cases e
  | [], p :: fs, x, r, e => by simp [lookL] at e
  | u :: us, [], x, r, e => by simp [lookL] at e
  | u :: us, p :: fs, x, r, e => by
    simp only [VRs, List.map_cons, List.cons.injEq] at r
    obtain ⟨v, r2, ⟨rfl, rfl⟩, rv, rr⟩ := r
    simp only [List.map_cons, lookL] at e
    rw [List.lookup_cons]
    by_cases hf : f = p.1
    · rw [if_pos hf] at e
      cases e
      have : (f == p.1) = true := by simpa using hf
      rw [this]
      exact ⟨p.2, rfl, rv, by simp [hf]⟩
    · rw [if_neg hf] at e
      have : (f == p.1) = false := by simpa using hf
      rw [this]
      obtain ⟨v, e1, e2, e3⟩ := lookL_ok rr e
      exact ⟨v, e1, e2, List.mem_cons_of_mem _ e3⟩
theorem no_meth {K : PySem.W.Frag} {C : Addr} {m : Str} {f : Addr} {fs : List (Str × V)} (hm : Meth K C m f) (na : ∀ x ∈ fs.map (·.1), NoAttr K C x) : fs.lookup m = none := by
  cases e : fs.lookup m with
  | none => rfl
  | some v =>
    have : m ∈ fs.map (·.1) := by
      clear na hm
      induction fs with
      | nil => cases e
      | cons p fs ih =>
        rw [List.lookup_cons] at e
        cases hb : m == p.1 with
        | true => simp only [List.map_cons]; rw [show m = p.1 by simpa using hb]; exact List.mem_cons_self
        | false => rw [hb] at e; exact List.mem_cons_of_mem _ (ih e)
    have n := na m this
    unfold NoAttr at n
    rw [hm.at_] at n
    cases n
end
def mFld (n f : Str) (m : ME) : ME := fun ρ h => (m ρ h).bind fun d h => optR ((insOf h n d).bind fun p => lookL f p.1 p.2) h
section
variable {X : Cx} {W : WX} {e o : Expr} {es : List Expr} {kws : List Keyword} {m mo mv : ME} {mas mks : MA} {pos apos p : Pos} {n f x : Str} {C : Addr} {k : Nat}
theorem e_fld (V : ClsV X.K X.mg n C) (he : SE X W e m) (hb : attributeBase e f X.env (eval e X.env) = eval e X.env := by rfl) : SE X W (.Attribute e f pos) (mFld n f m) := PE.imp (pe_fld he hb) fun σ H Q q => by
  refine (tP.bind q).mono fun v H1 ⟨w1, ρ, h1, d, e1, s1, r1, p1⟩ => ?_
  obtain ⟨x, ex, p2⟩ := optR_post p1
  rw [Option.bind_eq_some_iff] at ex
  obtain ⟨⟨ns, us⟩, e2, e3⟩ := ex
  obtain ⟨a, C', dx, fs, rfl, hm, q1, rfl, z, na⟩ := insOf_ok s1 r1 e2
  have hm' : X.mg n = some (.ref C') := hm
  rw [V.m] at hm'; cases hm'
  obtain ⟨y, e4, r4, e5⟩ := lookL_ok z e3
  exact ⟨a, C, dx, fs, y, rfl, q1, V.c, na f e5, e4, p2.ret r4 s1⟩
/-! a field stored -/
def putN (f : Str) (ns : List Str) : List Str := if f ∈ ns then ns else ns ++ [f]
def putUs (f : Str) (d : D) : List Str → List D → List D
  | n :: ns, u :: us => if n = f then d :: us else u :: putUs f d ns us
  | _, _ => [d]
theorem putF_names {f : Str} {v : V} : ∀ fs : List (Str × V), (L2.putF f v fs).map (·.1) = putN f (fs.map (·.1))
  | [] => rfl
  | (g, y) :: r => by
    unfold L2.putF
    by_cases hg : g = f
    · rw [if_pos hg]
      unfold putN
      rw [if_pos (by simp [hg])]
      rfl
    · rw [if_neg hg, List.map_cons, putF_names r]
      unfold putN
      by_cases hm : f ∈ r.map (·.1)
      · rw [if_pos hm, if_pos (by simp only [List.map_cons]; exact List.mem_cons_of_mem _ hm)]; rfl
      · rw [if_neg hm, if_neg (by simp only [List.map_cons, List.mem_cons, not_or]; exact ⟨fun z => hg z.symm, hm⟩)]; rfl
theorem putF_vals {c : Ct} {w : Wd} {f : Str} {d : D} {v : V} (rv : VR c w d v) : ∀ {us : List D} {fs : List (Str × V)}, VRs c w us (fs.map (·.2)) → VRs c w (putUs f d (fs.map (·.1)) us) ((L2.putF f v fs).map (·.2))
  | us, [], r => by
    simp only [List.map_nil] at r
    have : us = [] := by cases us with
      | nil => rfl
      | cons _ _ => simp only [VRs] at r; obtain ⟨_, _, z, _⟩ := r; cases z
    subst this
    exact .one rv
  | [], (g, y) :: r, rr => by simp [VRs] at rr
  | u :: us, (g, y) :: r, rr => by
    simp only [VRs, List.map_cons, List.cons.injEq] at rr
    obtain ⟨v', r2, ⟨rfl, rfl⟩, ru, rs⟩ := rr
    simp only [List.map_cons, putUs]
    unfold L2.putF
    by_cases hg : g = f
    · rw [if_pos hg, if_pos hg]; exact .cons rv rs
    · rw [if_neg hg, if_neg hg, List.map_cons]; exact .cons ru (putF_vals rv rs)
def fldS (n f : Str) (x d : D) (h : Hd) : Option Hd := match x with
  | .ref r => match h[r]? with
    | some (.ins n' ns us) => if n' = n ∧ ns.length < 1000 then some (h.set r (.ins n (putN f ns) (putUs f d ns us))) else none
    | _ => none
  | _ => none
def mFldS (n f : Str) (mo mv : ME) : MS := liftR (fun ρ h => (mv ρ h).bind fun d h => (mo ρ h).bind fun x h => match fldS n f x d h with
  | some h => .ok () h
  | none => .bad) fun _ ρ h => .nx ρ h
theorem s_fld (V : ClsV X.K X.mg n C) (na : NoAttr X.K C f) (ho : SE X W o mo) (hv : SE X W e mv) (hs : swapsWith e (some (.Attribute o f apos)) pos.line X.env = pure false := by rfl) : SS X W (.Assign [.Attribute o f apos] e pos) (mFldS n f mo mv) :=
  PS.imp (ps_fld ho hv hs) fun Dn σ H q => by
  have q' : tP (fun _ _ (_ : Unit) (_ : Unit) => True) (Cx.ct X) W (fun ρ h => (mv ρ h).bind fun d h => (mo ρ h).bind fun x h => match fldS n f x d h with
      | some h => .ok () h
      | none => .bad) σ H (fun _ H1 => Dn.nx σ H1) := (tS.lift q).mono fun v H1 ⟨w1, ρ, h1, d, e1, s1, r1, p1⟩ => p1.nx e1 s1
  refine (tP.bind q').mono fun v H1 ⟨w1, ρ, h1, d, e1, s1, r1, p1⟩ => ?_
  refine ⟨w1, ρ, h1, e1, s1, (Post.bind p1).mono fun vx H2 ⟨w2, h2, x, l2, r2, s2, p2⟩ => ?_⟩
  split at p2
  · rename_i h3 e3
    unfold fldS at e3
    split at e3
    · rename_i r
      split at e3
      · rename_i n' ns us ex
        split at e3
        · rename_i hn
          obtain ⟨en, hl⟩ := hn
          subst en
          cases e3
          simp only [VR] at r2
          obtain ⟨a, rfl, fr⟩ := r2
          obtain ⟨b, q1, _, _, C', dx, fs, hm, q, k, z, na'⟩ := s2.cell _ _ ex (by intro z; cases z)
          rw [fr] at q1; cases q1
          have hm' : X.mg n' = some (.ref C') := hm
          rw [V.m] at hm'; cases hm'
          subst k
          refine ⟨a, C, dx, fs, rfl, q, V.c, na, by simpa using hl, ?_⟩
          refine p2 () w2 _ (.refl _) trivial (s2.write ex (by intro z; cases z) fr ⟨C, dx, _, V.m, upd_same, (putF_names fs).symm, putF_vals (r1.le l2) z, fun g hg => ?_⟩ (by intro z; cases z))
          unfold putN at hg
          split at hg
          · exact na' g hg
          · rcases List.mem_append.mp hg with hg | hg
            · exact na' g hg
            · rw [List.mem_singleton.mp hg]; exact na
        · cases e3
      · cases e3
    · cases e3
  · exact p2.elim
end
/-! ## calls of any shape -/
/-- how a call of a shape fills the parameters -/
structure BnG (K : PySem.W.Frag) (mg : Str → Option Value) (fd : FuncData) (ps : List Str) (n : Nat) (ks : List Str) (gD : List D → List D → List D) : Prop where
  ex : ∃ g gV, KBn K fd ps n ks g gV ∧ ∀ (w : Wd) (ds es : List D) (vs zs : List V), VRs ⟨K, mg⟩ w ds vs → VRs ⟨K, mg⟩ w es zs → ds.length = n → es.length = ks.length → VRs ⟨K, mg⟩ w (gD ds es) (gV vs zs) ∧ (gD ds es).length = ps.length
def mCalG (n j : Nat) (gD : List D → List D → List D) (m : List D → Hd → Res D) (ma mk : MA) : ME := fun ρ h => (ma ρ h).bind fun ds h => (mk ρ h).bind fun es h => if ds.length = n ∧ es.length = j then m (gD ds es) h else .bad
def mMthG (cn : Str) (n j : Nat) (gD : List D → List D → List D) (m : List D → Hd → Res D) (mo : ME) (ma mk : MA) : ME := fun ρ h => (mo ρ h).bind fun x h => if (insOf h cn x).isSome then (ma ρ h).bind fun ds h => (mk ρ h).bind fun es h => if ds.length = n ∧ es.length = j then m (gD (x :: ds) es) h else .bad else .bad
def madeF (r : Nat) : Res D → Res D
  | .ok .non h => .ok (.ref r) h
  | .ok _ _ => .bad
  | .exc x h => .exc x h
  | .bad => .bad
def mMakG (cn : Str) (n j : Nat) (gD : List D → List D → List D) (m : List D → Hd → Res D) (ma mk : MA) : ME := fun ρ h => (ma ρ h).bind fun ds h => (mk ρ h).bind fun es h => if ds.length = n ∧ es.length = j then madeF h.length (m (gD (.ref h.length :: ds) es) (h ++ [.ins cn [] []])) else .bad
structure CalG (P : Program) (w : World) (K : PySem.W.Frag) (mg : Str → Option Value) (base : Heap) (k : Nat) (x : Str) (n : Nat) (ks : List Str) (gD : List D → List D → List D) (m : List D → Hd → Res D) : Prop where
  ex : ∃ (f : Addr) (fd : FuncData) (ps : List Str), FnG P w K mg base (L2.CX P w) k f fd ps (spM ⟨K, mg⟩ ps.length m) ∧ mg x = some (.ref f) ∧ PySem.W.keepIn K (.ref f) = true ∧ BnG K mg fd ps n ks gD
structure MthG (P : Program) (w : World) (K : PySem.W.Frag) (mg : Str → Option Value) (base : Heap) (k : Nat) (cn x : Str) (n : Nat) (ks : List Str) (gD : List D → List D → List D) (m : List D → Hd → Res D) : Prop where
  ex : ∃ (C f : Addr) (fd : FuncData) (ps : List Str), FnG P w K mg base (L2.CX P w) k f fd ps (spM ⟨K, mg⟩ ps.length m) ∧ ClsV K mg cn C ∧ Meth K C x f ∧ BnG K mg fd ps (n + 1) ks gD
structure MakG (P : Program) (w : World) (K : PySem.W.Frag) (mg : Str → Option Value) (base : Heap) (k : Nat) (cn : Str) (n : Nat) (ks : List Str) (gD : List D → List D → List D) (m : List D → Hd → Res D) : Prop where
  ex : ∃ (C f : Addr) (fd : FuncData) (ps : List Str), FnG P w K mg base (L2.CX P w) k f fd ps (spM ⟨K, mg⟩ ps.length m) ∧ ClsV K mg cn C ∧ Mk K C f ∧ BnG K mg fd ps (n + 1) ks gD
end DD
set_option Elab.async false
set_option linter.all false
set_option maxRecDepth 100000
set_option maxHeartbeats 4000000
namespace DD
open PySem PySem.Spec L2 RZ
section
variable {X : Cx} {W : WX} {e o : Expr} {es : List Expr} {kws : List Keyword} {mo : ME} {mas mks : MA} {pos apos p : Pos} {cn x : Str} {k n j : Nat} {ks : List Str} {gD : List D → List D → List D} {m : List D → Hd → Res D} {sp : Sp}
theorem post_res {c : Ct} {w : Wd} {σ : L2.St} {Q : VK} {r : Res D} (p : Post (RV c) c w W σ r Q) : Post (RV c) c w (fun cls d _ H' => WE W σ cls d H') [] r Q := by
  cases r with
  | ok d h => exact p
  | exc x h => exact p
  | bad => exact p
/-- what a shape's call asks, behind the arguments -/
theorem cal_in {c : Ct} {K : PySem.W.Frag} {mg : Str → Option Value} (hc : c = ⟨K, mg⟩) {ps : List Str} {gV : List V → List V → List V} {w : Wd} {h : Hd} {H : Hp} {σ : L2.St} {Q : VK} {ds es : List D} {vs zs : List V}
    (rel : ∀ (w : Wd) (ds es : List D) (vs zs : List V), VRs ⟨K, mg⟩ w ds vs → VRs ⟨K, mg⟩ w es zs → ds.length = n → es.length = ks.length → VRs ⟨K, mg⟩ w (gD ds es) (gV vs zs) ∧ (gD ds es).length = ps.length)
    (s : SR c w h H) (r1 : VRs c w ds vs) (r2 : VRs c w es zs) (h1 : ds.length = n) (h2 : es.length = ks.length) (p : Post (RV c) c w W σ (m (gD ds es) h) Q) :
    spM ⟨K, mg⟩ ps.length m (gV vs zs) H Q (WE W σ) := by
  subst hc
  obtain ⟨a, b⟩ := rel w ds es vs zs r1 r2 h1 h2
  exact ⟨w, gD ds es, h, a, s, b, post_res p⟩
theorem e_calG (C : CalG X.prog X.w X.K X.mg X.base k x n ks gD m) (hr : RoomG k X.A) (tk : Takes X W) (ha : SA X W (e :: es) mas) (hkw : SK X W kws mks) (hj : ks.length = j := by rfl) (hg : Gl X x := by rfl) (hdb : (x == ("__debug__" : Str)) = false := by decide)
    (hks : (backToKw pos (keywordEach kws X.env)).filterMap (·.1) = ks := by rfl) (hall : (backToKw pos (keywordEach kws X.env)).all (·.1.isSome) = true := by rfl)
    (hst : starEach (e :: es) X.env = (false, eval e X.env) :: starEach es X.env := by rfl) (hpl : ((backTo pos (starEach (e :: es) X.env)).any (·.1) || (backToKw pos (keywordEach kws X.env)).any (·.1.isNone)) = false := by rfl) :
    SE X W (.Call (.Name x p) (e :: es) kws pos) (mCalG n j gD m mas mks) := by
  subst hj
  obtain ⟨f, fd, ps, F, hm, hk, ⟨g, gV, hb, rel⟩⟩ := C.ex
  refine PE.imp (pe_calG (E := WE W) F hr hg hm hk hb (passAt tk) ha hkw hall hks hdb hst hpl) fun σ H Q q => ?_
  refine (tP.bind (k := fun ρ ds h => (mks ρ h).bind fun es h => if ds.length = n ∧ es.length = ks.length then m (gD ds es) h else .bad) q).mono fun vs H1 ⟨w1, ρ, h1, ds, e1, s1, r1, p1⟩ => ?_
  refine ⟨w1, ρ, h1, e1, s1, (Post.bind p1).mono fun zs H2 ⟨w2, h2, es2, l2, r2, s2, p2⟩ => ?_⟩
  split at p2
  · rename_i hn
    exact ⟨by rw [← r1.len]; exact hn.1, by rw [← r2.len]; exact hn.2, cal_in rfl rel s2 (r1.le l2) r2 hn.1 hn.2 p2⟩
  · exact p2.elim
theorem e_calG0 (C : CalG X.prog X.w X.K X.mg X.base k x 0 ks gD m) (hr : RoomG k X.A) (tk : Takes X W) (hkw : SK X W kws mks) (hj : ks.length = j := by rfl) (hg : Gl X x := by rfl) (hdb : (x == ("__debug__" : Str)) = false := by decide)
    (hks : (backToKw pos (keywordEach kws X.env)).filterMap (·.1) = ks := by rfl) (hall : (backToKw pos (keywordEach kws X.env)).all (·.1.isSome) = true := by rfl)
    (hpl : ((backTo pos (starEach [] X.env)).any (·.1) || (backToKw pos (keywordEach kws X.env)).any (·.1.isNone)) = false := by rfl) :
    SE X W (.Call (.Name x p) [] kws pos) (mCalG 0 j gD m aNil mks) := by
  subst hj
  obtain ⟨f, fd, ps, F, hm, hk, ⟨g, gV, hb, rel⟩⟩ := C.ex
  refine PE.imp (pe_calG0 (E := WE W) F hr hg hm hk hb (passAt tk) hkw hall hks hdb hpl) fun σ H Q q => ?_
  obtain ⟨w1, ρ, h1, e1, s1, p1⟩ := q
  refine ⟨w1, ρ, h1, e1, s1, (Post.bind (k := fun es h => if ([] : List D).length = 0 ∧ es.length = ks.length then m (gD [] es) h else .bad) p1).mono fun zs H2 ⟨w2, h2, es2, l2, r2, s2, p2⟩ => ?_⟩
  split at p2
  · rename_i hn
    exact ⟨rfl, by rw [← r2.len]; exact hn.2, cal_in rfl rel s2 .nil r2 hn.1 hn.2 p2⟩
  · exact p2.elim
theorem e_mthG {pl : Sem Bool} (C : MthG X.prog X.w X.K X.mg X.base k cn x n ks gD m) (hr : RoomG k X.A) (tk : Takes X W) (ho : SE X W o mo) (ha : SA X W (e :: es) mas) (hkw : SK X W kws mks) (hj : ks.length = j := by rfl)
    (hks : (backToKw pos (keywordEach kws X.env)).filterMap (·.1) = ks := by rfl) (hall : (backToKw pos (keywordEach kws X.env)).all (·.1.isSome) = true := by rfl)
    (hst : starEach (e :: es) X.env = (false, eval e X.env) :: starEach es X.env := by rfl) (hpl : ((backTo pos (starEach (e :: es) X.env)).any (·.1) || (backToKw pos (keywordEach kws X.env)).any (·.1.isNone)) = false := by rfl)
    (hev : eval (.Call (.Attribute o x apos) (e :: es) kws pos) X.env = (do
      let ov ← eval o X.env
      standAt apos.atName
      let (f, first) ← holding [ov] (getMethod ov x pl)
      callWith pos f first (backTo pos (starEach (e :: es) X.env)) (backToKw pos (keywordEach kws X.env))) := by rfl) :
    SE X W (.Call (.Attribute o x apos) (e :: es) kws pos) (mMthG cn n j gD m mo mas mks) := by
  subst hj
  obtain ⟨C, f, fd, ps, F, V, hm, ⟨g, gV, hb, rel⟩⟩ := C.ex
  refine PE.imp (pe_mthG (E := WE W) ho V.c hm F hr hb (passAt tk) ha hkw hall hks hst hpl hev) fun σ H Q q => ?_
  refine (tP.bind (k := fun ρ x h => if (insOf h cn x).isSome then (mas ρ h).bind fun ds h => (mks ρ h).bind fun es h => if ds.length = n ∧ es.length = ks.length then m (gD (x :: ds) es) h else .bad else .bad) q).mono fun vx H1 ⟨w1, ρ, h1, dx, e1, s1, r1, p1⟩ => ?_
  split at p1
  · rename_i hi
    obtain ⟨⟨ns, us⟩, ei⟩ := Option.isSome_iff_exists.mp hi
    obtain ⟨a, C', da, fs, rfl, hcm, ha1, rfl, z, na⟩ := insOf_ok s1 r1 ei
    have hcm' : X.mg cn = some (.ref C') := hcm
    rw [V.m] at hcm'; cases hcm'
    refine ⟨a, da, fs, rfl, ha1, no_meth hm na, w1, ρ, h1, e1, s1, (Post.bind p1).mono fun vs H2 ⟨w2, h2, ds, l2, r2, s2, p2⟩ => ?_⟩
    refine ⟨w2, ρ, h2, e1.le l2, s2, (Post.bind p2).mono fun zs H3 ⟨w3, h3, es3, l3, r3, s3, p3⟩ => ?_⟩
    split at p3
    · rename_i hn
      exact ⟨by rw [← r2.len]; exact hn.1, by rw [← r3.len]; exact hn.2, cal_in (n := n + 1) rfl rel s3 (.cons (r1.le (l2.trans l3)) (r2.le l3)) r3 (congrArg Nat.succ hn.1) hn.2 p3⟩
    · exact p3.elim
  · exact p1.elim
theorem e_mthG0 {pl : Sem Bool} (C : MthG X.prog X.w X.K X.mg X.base k cn x 0 ks gD m) (hr : RoomG k X.A) (tk : Takes X W) (ho : SE X W o mo) (hkw : SK X W kws mks) (hj : ks.length = j := by rfl)
    (hks : (backToKw pos (keywordEach kws X.env)).filterMap (·.1) = ks := by rfl) (hall : (backToKw pos (keywordEach kws X.env)).all (·.1.isSome) = true := by rfl)
    (hpl : ((backTo pos (starEach [] X.env)).any (·.1) || (backToKw pos (keywordEach kws X.env)).any (·.1.isNone)) = false := by rfl)
    (hev : eval (.Call (.Attribute o x apos) [] kws pos) X.env = (do
      let ov ← eval o X.env
      standAt apos.atName
      let (f, first) ← holding [ov] (getMethod ov x pl)
      callWith pos f first (backTo pos (starEach [] X.env)) (backToKw pos (keywordEach kws X.env))) := by rfl) :
    SE X W (.Call (.Attribute o x apos) [] kws pos) (mMthG cn 0 j gD m mo aNil mks) := by
  subst hj
  obtain ⟨C, f, fd, ps, F, V, hm, ⟨g, gV, hb, rel⟩⟩ := C.ex
  refine PE.imp (pe_mthG0 (E := WE W) ho V.c hm F hr hb (passAt tk) hkw hall hks hpl hev) fun σ H Q q => ?_
  refine (tP.bind (k := fun ρ x h => if (insOf h cn x).isSome then (aNil ρ h).bind fun ds h => (mks ρ h).bind fun es h => if ds.length = 0 ∧ es.length = ks.length then m (gD (x :: ds) es) h else .bad else .bad) q).mono fun vx H1 ⟨w1, ρ, h1, dx, e1, s1, r1, p1⟩ => ?_
  split at p1
  · rename_i hi
    obtain ⟨⟨ns, us⟩, ei⟩ := Option.isSome_iff_exists.mp hi
    obtain ⟨a, C', da, fs, rfl, hcm, ha1, rfl, z, na⟩ := insOf_ok s1 r1 ei
    have hcm' : X.mg cn = some (.ref C') := hcm
    rw [V.m] at hcm'; cases hcm'
    refine ⟨a, da, fs, rfl, ha1, no_meth hm na, w1, ρ, h1, e1, s1, (Post.bind (k := fun es h => if ([] : List D).length = 0 ∧ es.length = ks.length then m (gD [dx] es) h else .bad) p1).mono fun zs H3 ⟨w3, h3, es3, l3, r3, s3, p3⟩ => ?_⟩
    split at p3
    · rename_i hn
      exact ⟨rfl, by rw [← r3.len]; exact hn.2, cal_in (n := 0 + 1) rfl rel s3 (.one (r1.le l3)) r3 rfl hn.2 p3⟩
    · exact p3.elim
  · exact p1.elim
/-- the made instance, behind its __init__ -/
theorem made_in {c : Ct} {K : PySem.W.Frag} {mg : Str → Option Value} (hc : c = ⟨K, mg⟩) {C : Addr} (vc : ClsV K mg cn C) {ps : List Str} {gV : List V → List V → List V} {w : Wd} {h : Hd} {H : Hp} {σ : L2.St} {Q : VK} {ds es : List D} {vs zs : List V}
    (rel : ∀ (w : Wd) (ds es : List D) (vs zs : List V), VRs ⟨K, mg⟩ w ds vs → VRs ⟨K, mg⟩ w es zs → ds.length = n + 1 → es.length = ks.length → VRs ⟨K, mg⟩ w (gD ds es) (gV vs zs) ∧ (gD ds es).length = ps.length)
    (s : SR c w h H) (r1 : VRs c w ds vs) (r2 : VRs c w es zs) (h1 : ds.length = n) (h2 : es.length = ks.length) (p : Post (RV c) c w W σ (madeF h.length (m (gD (.ref h.length :: ds) es) (h ++ [.ins cn [] []]))) Q) (x dx : Addr) (nx : H x = none) (nd : H dx = none) (ne : dx ≠ x) :
    spM ⟨K, mg⟩ ps.length m (gV (.ref x :: vs) zs) (upd (upd H dx (.own x)) x (.ins C dx [])) (fun v H3 => v = .non ∧ Q (.ref x) H3) (WE W σ) := by
  subst hc
  have sA := s.laid nd (.own x)
  have nx' : (upd H dx (.own x)) x = none := by rw [upd_ne (Ne.symm ne)]; exact nx
  have sB := sA.laid nx' (.ins C dx [])
  obtain ⟨l, sC, rC⟩ := sB.own (FreshAt.of s nx) (z := .ins cn [] []) (by intro z; cases z) ⟨C, dx, [], vc.m, upd_same, rfl, .nil, fun f hf => by cases hf⟩
  obtain ⟨a, b⟩ := rel _ (.ref h.length :: ds) es (.ref x :: vs) zs (.cons rC (r1.le l)) (r2.le l) (congrArg Nat.succ h1) h2
  refine ⟨_, _, _, a, sC, b, ?_⟩
  cases e : m (gD (.ref h.length :: ds) es) (h ++ [.ins cn [] []]) with
  | ok d h3 =>
    rw [e] at p
    cases d with
    | non =>
      intro v w' H' l' rv s'
      have ev : v = .non := by simpa only [RV, VR] using rv
      refine ⟨ev, p (.ref x) w' H' (l.trans l') (VR.le l' rC) s'⟩
    | _ => exact p.elim
  | exc xx hx =>
    rw [e] at p
    exact fun cls d w' H' l' s' rx => p cls d w' H' (l.trans l') s' rx
  | bad => rw [e] at p; exact p.elim
theorem e_makG (C : MakG X.prog X.w X.K X.mg X.base k x n ks gD m) (hr : RoomG (k + 1) X.A) (tk : Takes X W) (ha : SA X W (e :: es) mas) (hkw : SK X W kws mks) (hj : ks.length = j := by rfl) (hg : Gl X x := by rfl) (hdb : (x == ("__debug__" : Str)) = false := by decide)
    (hks : (backToKw pos (keywordEach kws X.env)).filterMap (·.1) = ks := by rfl) (hall : (backToKw pos (keywordEach kws X.env)).all (·.1.isSome) = true := by rfl)
    (hst : starEach (e :: es) X.env = (false, eval e X.env) :: starEach es X.env := by rfl) (hpl : ((backTo pos (starEach (e :: es) X.env)).any (·.1) || (backToKw pos (keywordEach kws X.env)).any (·.1.isNone)) = false := by rfl) :
    SE X W (.Call (.Name x p) (e :: es) kws pos) (mMakG x n j gD m mas mks) := by
  subst hj
  obtain ⟨C, f, fd, ps, F, V, M, ⟨g, gV, hb, rel⟩⟩ := C.ex
  refine PE.imp (pe_makG (E := WE W) M F hr hg V.m hb (passAt tk) ha hkw hall hks hdb hst hpl) fun σ H Q q => ?_
  refine (tP.bind (k := fun ρ ds h => (mks ρ h).bind fun es h => if ds.length = n ∧ es.length = ks.length then madeF h.length (m (gD (.ref h.length :: ds) es) (h ++ [.ins x [] []])) else .bad) q).mono fun vs H1 ⟨w1, ρ, h1, ds, e1, s1, r1, p1⟩ => ?_
  refine ⟨w1, ρ, h1, e1, s1, (Post.bind p1).mono fun zs H2 ⟨w2, h2, es2, l2, r2, s2, p2⟩ => ?_⟩
  split at p2
  · rename_i hn
    exact ⟨by rw [← r1.len]; exact hn.1, by rw [← r2.len]; exact hn.2, fun y dy ny nd ne => made_in rfl V rel s2 (r1.le l2) r2 hn.1 hn.2 p2 y dy ny nd ne⟩
  · exact p2.elim
theorem e_makG0 (C : MakG X.prog X.w X.K X.mg X.base k x 0 ks gD m) (hr : RoomG (k + 1) X.A) (tk : Takes X W) (hkw : SK X W kws mks) (hj : ks.length = j := by rfl) (hg : Gl X x := by rfl) (hdb : (x == ("__debug__" : Str)) = false := by decide)
    (hks : (backToKw pos (keywordEach kws X.env)).filterMap (·.1) = ks := by rfl) (hall : (backToKw pos (keywordEach kws X.env)).all (·.1.isSome) = true := by rfl)
    (hpl : ((backTo pos (starEach [] X.env)).any (·.1) || (backToKw pos (keywordEach kws X.env)).any (·.1.isNone)) = false := by rfl) :
    SE X W (.Call (.Name x p) [] kws pos) (mMakG x 0 j gD m aNil mks) := by
  subst hj
  obtain ⟨C, f, fd, ps, F, V, M, ⟨g, gV, hb, rel⟩⟩ := C.ex
  refine PE.imp (pe_makG0 (E := WE W) M F hr hg V.m hb (passAt tk) hkw hall hks hdb hpl) fun σ H Q q => ?_
  obtain ⟨w1, ρ, h1, e1, s1, p1⟩ := q
  refine ⟨w1, ρ, h1, e1, s1, (Post.bind (k := fun es h => if ([] : List D).length = 0 ∧ es.length = ks.length then madeF h.length (m (gD (.ref h.length :: []) es) (h ++ [.ins x [] []])) else .bad) p1).mono fun zs H2 ⟨w2, h2, es2, l2, r2, s2, p2⟩ => ?_⟩
  split at p2
  · rename_i hn
    exact ⟨rfl, by rw [← r2.len]; exact hn.2, fun y dy ny nd ne => made_in rfl V rel s2 .nil r2 hn.1 hn.2 p2 y dy ny nd ne⟩
  · exact p2.elim
end
end DD
set_option Elab.async false
set_option linter.all false
set_option maxRecDepth 100000
set_option maxHeartbeats 4000000
namespace DD
open PySem PySem.Spec L2 RZ
/-! ## parameters filled by places -/
def pickL {α : Type} (pat : List Nat) (l : List α) : List α := match pat with
  | [] => []
  | i :: pat => match l[i]? with
    | some a => a :: pickL pat l
    | none => pickL pat l
theorem pickL_vals {l : List V} {l' : List Value} (r : Vals l l') : ∀ pat : List Nat, Vals (pickL pat l) (pickL pat l')
  | [] => .nil
  | i :: pat => by
    unfold pickL
    cases e : l[i]? with
    | none =>
      have e' : l'[i]? = none := by
        rw [List.getElem?_eq_none_iff] at e ⊢
        rw [← r.length]; exact e
      rw [e']; exact pickL_vals r pat
    | some a =>
      obtain ⟨b, e', ra⟩ := r.get e
      rw [e']; exact .cons ra (pickL_vals r pat)
theorem pickL_vrs {c : Ct} {w : Wd} {l : List D} {l' : List V} (r : VRs c w l l') : ∀ pat : List Nat, VRs c w (pickL pat l) (pickL pat l')
  | [] => .nil
  | i :: pat => by
    unfold pickL
    cases e : l[i]? with
    | none =>
      have e' : l'[i]? = none := by
        rw [List.getElem?_eq_none_iff] at e ⊢
        rw [← r.len]; exact e
      rw [e']; exact pickL_vrs r pat
    | some a =>
      obtain ⟨b, e', ra⟩ := r.get e
      rw [e']; exact .cons ra (pickL_vrs r pat)
theorem pickL_len {α : Type} {l : List α} : ∀ {pat : List Nat}, (∀ i ∈ pat, i < l.length) → (pickL pat l).length = pat.length
  | [], _ => rfl
  | i :: pat, h => by
    unfold pickL
    rw [List.getElem?_eq_getElem (h i (by simp))]
    simp only [List.length_cons]
    rw [pickL_len fun j m => h j (List.mem_cons_of_mem _ m)]
@[simp] theorem pickL_nil {α : Type} (l : List α) : pickL [] l = [] := rfl
def pickK {α : Type} (pat : List Nat) (l : List α) : Option α → List α
  | some a => a :: pickL pat l
  | none => pickL pat l
@[simp] theorem pickK_some {α : Type} (pat : List Nat) (l : List α) (a : α) : pickK pat l (some a) = a :: pickL pat l := rfl
@[simp] theorem pickL_cons {α : Type} (i : Nat) (pat : List Nat) (l : List α) : pickL (i :: pat) l = pickK pat l l[i]? := by
  show (match l[i]? with | some a => _ | none => _) = _
  unfold pickK; cases l[i]? <;> rfl
/-- a def of the top (or a method of a class): its defaults as data -/
structure DefX (K : PySem.W.Frag) (mg : Str → Option Value) (x qual : Str) (st : Stmt) (dvs : List D) (kws : List (Str × D)) (f : Addr) (fd : FuncData) : Prop where
  ex : ∃ (dv : List V) (kv : List (Str × V)), FunD K x qual (defArgs st) (defBody st) (defScope st) dv kv f fd ∧ (∀ w : Wd, VRs ⟨K, mg⟩ w dvs dv) ∧ kv.map (·.1) = kws.map (·.1) ∧ ∀ w : Wd, VRs ⟨K, mg⟩ w (kws.map (·.2)) (kv.map (·.2))
section
variable {P : Program} {w : World} {K : PySem.W.Frag} {mg : Str → Option Value} {base : Heap} {x qual : Str} {st : Stmt} {ps ks N : List Str} {f : Addr} {fd : FuncData} {k n : Nat} {dvs : List D} {kws : List (Str × D)} {b : MS} {m : List D → Hd → Res D}
/-- the rule for such a def -/
theorem fn_okX (A : DefX K mg x qual st dvs kws f fd) (S : FnScope N ps (defScope st))
    (hbody : ∀ (cdv : Value) (A : Around) (outer : List PySem.Env) (s : Shared) (H : Hp) (E : XK), RoomG k (A.deeper (PyProof.Rows.envOfC qual (defScope st) s.heap.objs.size f cdv)) →
      SSs (cxOf (L2.CX P w) P w K mg base N qual (defScope st) f cdv A outer s H E) (fun cls d _ H => E cls d H) (defBody st) b) : FnG P w K mg base (L2.CX P w) (k + 1) f fd ps (spM ⟨K, mg⟩ ps.length (runB N.length b)) := by
  obtain ⟨dv, kv, F, _⟩ := A.ex
  obtain ⟨oc, od, dV, kV, doc, pm, an, cdv, ct, osl, rfl, lk, hcd, _, _⟩ := F.ex
  refine fn_ofG lk hcd S (fun vs H Q E ⟨w, ds, h, r, s, hl, p⟩ => by rw [← r.len]; exact hl) (fun A outer s H vs Q E hr ⟨w', ds, h, r, sr, hl, p⟩ => ?_)
  refine ⟨_, hbody cdv A outer s H E hr, w', startD N.length ds, h, ER.start r, sr, ?_⟩
  unfold runB at p
  cases q : b (startD N.length ds) h with
  | nx ρ h1 => rw [q] at p; exact fun σ w2 H2 l e s => p .non w2 H2 l (by simp only [VR]) s
  | rt d h1 => rw [q] at p; exact p
  | bk ρ h1 => rw [q] at p; exact p.elim
  | ct ρ h1 => rw [q] at p; exact p.elim
  | exc y ρ h1 => rw [q] at p; exact fun cls dx σ w2 H2 l e s x => p cls dx w2 H2 l s x
  | bad => rw [q] at p; exact p
/-- every parameter is given by its place -/
theorem bn_pos (A : DefX K mg x qual st [] kws f fd) (hn : ps.length = n)
    (h : ∀ (kV doc pm : Value) (an : Option Addr) (cdv ct : Value) (us : List Value), us.length = n → bindArgs (PySem.W.fnOf x qual (defArgs st) (defBody st) (defScope st) .none kV doc pm an cdv ct) ⟨us, []⟩ = pure (ps.zip us)) : BnG K mg fd ps n [] (fun ds _ => ds) := by
  obtain ⟨dv, kv, F, hd, _⟩ := A.ex
  obtain ⟨oc, od, dV, kV, doc, pm, an, cdv, ct, osl, rfl, lk, hcd, hD, hK⟩ := F.ex
  have ed : dv = [] := by
    have := (hd ⟨fun _ => none, fun _ => none, fun _ => none⟩).len
    exact List.length_eq_zero_iff.mp this.symm
  rcases hD with ⟨_, rfl⟩ | ⟨e, _⟩
  · exact ⟨fun us _ => us, fun vs _ => vs, ⟨fun s us ws _ hu hw => by
      have : ws = [] := List.length_eq_zero_iff.mp hw
      subst this
      exact .of_eq (h kV doc pm an cdv ct us hu), fun r _ => r⟩, fun w ds es vs zs r _ e _ => ⟨r, by rw [e, hn]⟩⟩
  · exact absurd ed e
/-- no default is looked for, some are given by names -/
theorem bn_all (A : DefX K mg x qual st [] kws f fd) (pat : List Nat) (hp : ∀ i ∈ pat, i < n + ks.length) (hl : pat.length = ps.length)
    (h : ∀ (kV doc pm : Value) (an : Option Addr) (cdv ct : Value) (us ws : List Value), us.length = n → ws.length = ks.length → bindArgs (PySem.W.fnOf x qual (defArgs st) (defBody st) (defScope st) .none kV doc pm an cdv ct) ⟨us, ks.zip ws⟩ = pure (ps.zip (pickL pat (us ++ ws)))) :
    BnG K mg fd ps n ks (fun ds es => pickL pat (ds ++ es)) := by
  obtain ⟨dv, kv, F, hd, _⟩ := A.ex
  obtain ⟨oc, od, dV, kV, doc, pm, an, cdv, ct, osl, rfl, lk, hcd, hD, hK⟩ := F.ex
  have ed : dv = [] := by
    have := (hd ⟨fun _ => none, fun _ => none, fun _ => none⟩).len
    exact List.length_eq_zero_iff.mp this.symm
  rcases hD with ⟨_, rfl⟩ | ⟨e, _⟩
  · exact ⟨fun us ws => pickL pat (us ++ ws), fun vs zs => pickL pat (vs ++ zs), ⟨fun s us ws _ hu hw => .of_eq (h kV doc pm an cdv ct us ws hu hw), fun r1 r2 => pickL_vals (r1.append r2) pat⟩,
      fun w ds es vs zs r1 r2 e1 e2 => ⟨pickL_vrs (r1.append r2) pat, by rw [pickL_len (by rw [List.length_append, e1, e2]; exact hp), hl]⟩⟩
  · exact absurd ed e
theorem kws_pick {kv : List (Str × V)} (e : kv.map (·.1) = kws.map (·.1)) {c : Ct} {wd : Wd} (r : VRs c wd (kws.map (·.2)) (kv.map (·.2))) : ∀ js : List Nat, VRs c wd ((pickL js kws).map (·.2)) ((pickL js kv).map (·.2)) ∧ (pickL js kv).map (·.1) = (pickL js kws).map (·.1)
  | [] => ⟨.nil, rfl⟩
  | j :: js => by
    have ih := kws_pick e r js
    have el : kv.length = kws.length := by simpa using congrArg List.length e
    unfold pickL
    cases q : kws[j]? with
    | none =>
      have q' : kv[j]? = none := by rw [List.getElem?_eq_none_iff] at q ⊢; omega
      rw [q']; exact ih
    | some p =>
      obtain ⟨v, e1, rv⟩ := r.get (i := j) (d := p.2) (by rw [List.getElem?_map, q]; rfl)
      rw [List.getElem?_map] at e1
      cases q2 : kv[j]? with
      | none => rw [q2] at e1; cases e1
      | some p2 =>
        rw [q2] at e1
        cases e1
        have e3 : p2.1 = p.1 := by
          have := congrArg (fun l => l[j]?) e
          simp only [List.getElem?_map, q, q2, Option.map_some, Option.some.injEq] at this
          exact this
        exact ⟨.cons rv ih.1, by simp only [List.map_cons]; rw [e3, ih.2]⟩
/-- the keyword-only parameters at the places js lack -/
theorem bn_kw (A : DefX K mg x qual st [] kws f fd) (hk : kws ≠ []) (js : List Nat) (hjs : ∀ j ∈ js, j < kws.length) (pat : List Nat) (hp : ∀ i ∈ pat, i < n + (js.length + ks.length)) (hl : pat.length = ps.length)
    (h : ∀ (Dd : Addr) (doc pm : Value) (an : Option Addr) (cdv ct : Value) (us mv ws : List Value), us.length = n → mv.length = js.length → ws.length = ks.length →
      KwChain Dd (((pickL js kws).map (·.1)).zip mv) (bindArgs (PySem.W.fnOf x qual (defArgs st) (defBody st) (defScope st) .none (.ref Dd) doc pm an cdv ct) ⟨us, ks.zip ws⟩) (ps.zip (pickL pat (us ++ (mv ++ ws))))) :
    BnG K mg fd ps n ks (fun ds es => pickL pat (ds ++ ((pickL js kws).map (·.2) ++ es))) := by
  obtain ⟨dv, kv, F, hd, ek, rk⟩ := A.ex
  have ed : dv = [] := by
    have := (hd ⟨fun _ => none, fun _ => none, fun _ => none⟩).len
    exact List.length_eq_zero_iff.mp this.symm
  subst ed
  have el : kv.length = kws.length := by simpa using congrArg List.length ek
  have hk' : kv ≠ [] := fun z => hk (List.length_eq_zero_iff.mp (by rw [← el, z]; rfl))
  have lj : (pickL js kv).length = js.length := pickL_len (by rw [el]; exact hjs)
  have lj2 : (pickL js kws).length = js.length := pickL_len hjs
  have nm := fun wd => kws_pick (c := ⟨K, mg⟩) ek (rk wd) js
  have nms := (nm ⟨fun _ => none, fun _ => none, fun _ => none⟩).2
  have mem : ∀ {α : Type} {l : List α} (js : List Nat), ∀ q ∈ pickL js l, q ∈ l := by
    intro α l js
    induction js with
    | nil => intro q m; cases m
    | cons j js ih =>
      intro q m
      unfold pickL at m
      cases e : l[j]? with
      | none => rw [e] at m; exact ih q m
      | some a =>
        rw [e] at m
        rcases List.mem_cons.mp m with rfl | m
        · exact List.mem_of_getElem? e
        · exact ih q m
  obtain ⟨mv, hb⟩ := F.kbinds0 (ps := ps) n ks (pickL js kv) (fun us mv ws => pickL pat (us ++ (mv ++ ws))) hk' (fun q hq => mem js q hq) (fun r1 r2 r3 => pickL_vals (r1.append (r2.append r3)) pat)
    fun D doc pm an cdv ct us mv ws e1 e2 e3 => by
      have := h D doc pm an cdv ct us mv ws e1 (by rw [e2, lj]) e3
      rw [← nms] at this
      exact this
  refine ⟨_, _, hb, fun wd ds es vs zs r1 r2 e1 e2 => ⟨pickL_vrs (r1.append ((nm wd).1.append r2)) pat, ?_⟩⟩
  rw [pickL_len, hl]
  rw [List.length_append, List.length_append, List.length_map, e1, e2, lj2]
  exact hp
/-- defaults behind the places, no keyword-only parameters -/
theorem bn_dfl (A : DefX K mg x qual st dvs [] f fd) (hd0 : dvs ≠ []) (pat : List Nat) (hp : ∀ i ∈ pat, i < n + (dvs.length + ks.length)) (hl : pat.length = ps.length)
    (h : ∀ (T : Addr) (kV doc pm : Value) (an : Option Addr) (cdv ct : Value) (us its ws : List Value), us.length = n → its.length = dvs.length → ws.length = ks.length →
      ∃ k, bindArgs (PySem.W.fnOf x qual (defArgs st) (defBody st) (defScope st) (.ref T) kV doc pm an cdv ct) ⟨us, ks.zip ws⟩ = seqItems? (.ref T) >>= k ∧ k (some its.toArray) = pure (ps.zip (pickL pat (us ++ (its ++ ws))))) :
    BnG K mg fd ps n ks (fun ds es => pickL pat (ds ++ (dvs ++ es))) := by
  obtain ⟨dv, kv, F, hd, ek, rk⟩ := A.ex
  have el : dvs.length = dv.length := (hd ⟨fun _ => none, fun _ => none, fun _ => none⟩).len
  obtain ⟨its, hb⟩ := F.kbindsD (ps := ps) n ks (fun us its ws => pickL pat (us ++ (its ++ ws))) (fun z => hd0 (List.length_eq_zero_iff.mp (by rw [el, z]; rfl))) (fun r1 r2 r3 => pickL_vals (r1.append (r2.append r3)) pat)
    fun T kV doc pm an cdv ct us its ws e1 e2 e3 => h T kV doc pm an cdv ct us its ws e1 (by rw [e2, el]) e3
  refine ⟨_, _, hb, fun wd ds es vs zs r1 r2 e1 e2 => ⟨pickL_vrs (r1.append ((hd wd).append r2)) pat, ?_⟩⟩
  rw [pickL_len, hl]
  rw [List.length_append, List.length_append, e1, e2]
  exact hp
end
end DD
set_option Elab.async false
set_option linter.all false
set_option maxRecDepth 100000
set_option maxHeartbeats 4000000
namespace L2
open PySem PySem.Spec PyProof.Rows
/-! ## the pairs of a locked dict with tuple keys -/
def Itit (d : Addr) (o : Obj) (kvs : List (List Key × V)) : It :=
  ⟨fun i H => H d = some (.frz o (.dT kvs)) ∧ i < kvs.length,
   fun i H x H' => ∃ T k v q, kvs[i]? = some (k, v) ∧ x = .ref T ∧ H q = some (.tup (k.map kV)) ∧ H T = none ∧ H' = upd H T (.tup [.ref q, v]),
   fun i H => H d = some (.frz o (.dT kvs)) ∧ kvs.length ≤ i⟩
section
variable {X : Cx} {pins : List (Addr × Obj)} {σ : St} {H : Hp} {s : Shared} {d : Addr} {o : Obj}
theorem Inv.frzTV {kvs : List (List Key × V)} (I : Inv X pins σ H s) (h : H d = some (.frz o (.dT kvs))) :
    (d == sysModules) = false ∧ ∃ (es : Array DictEntry) (ep : Nat), o.data = .dict es ep ∧ s.heap.DictRaw d es ep ∧ es.size = kvs.length ∧
      ∀ (i : Nat) (k : List Key) (v : V), kvs[i]? = some (k, v) → ∃ (en : DictEntry) (q : Addr), es[i]? = some en ∧ en.key = .ref q ∧ RelV v en.val ∧ H q = some (.tup (k.map kV)) := by
  obtain ⟨hd, z, hs, xs, pr, o', es, ep, ho, hx, hdt, he, _⟩ := I.hok d _ h
  rw [hd] at ho
  cases ho
  refine ⟨hs, es, ep, hdt, ⟨o, hd, hx, hdt⟩, ?_, fun i k v e => ?_⟩
  · have l1 : es.size = xs.length := size_of_entries he
    have l2 : kvs.length = xs.length := Paired.length pr
    omega
  · obtain ⟨b, hb, e1, e2, e3⟩ := paired_get pr e
    have q := entry_at he i
    rw [hb] at q
    exact ⟨_, b.2.1, q, rfl, e3, e2⟩
end
theorem turn_itemsT {P : Program} {w : World} {K : PySem.W.Frag} {d : Addr} {o : Obj} {es : Array DictEntry} {ep : Nat} {kvs : List (List Key × V)} {elts : List Expr} {kk : Nat} {tpos : Pos} (it : Addr) (hod : o.data = .dict es ep) :
    Turn P w K (.Tuple elts kk tpos) (Itit d o kvs) [it] it (fun i h => ∃ ok ov, IsItemIter h it d i kvs.length ep ok ov) where
  mem := List.mem_singleton.mpr rfl
  obj := fun i h st b hb => by
    cases List.mem_singleton.mp hb
    obtain ⟨ok, ov, e⟩ := st
    exact ⟨_, e, fun v z => nomatch z⟩
  keep := fun i h h' ⟨ok, ov, e⟩ k => ⟨ok, ov, k it (List.mem_singleton.mpr rfl) _ e⟩
  item := by
    intro X hP hw hK hc i pins s σ H E I hf st hg
    cases hP; cases hw; cases hK
    obtain ⟨hd, hi⟩ := hg
    obtain ⟨hs, es', ep', hdt, raw, hsz, ent⟩ := I.frzTV hd
    obtain ⟨rfl, rfl⟩ := dict_ep hod hdt
    obtain ⟨⟨k, v⟩, hkv⟩ : ∃ p, kvs[i]? = some p := ⟨_, List.getElem?_eq_getElem hi⟩
    obtain ⟨en, q, hen, hkey, hval, hq⟩ := ent i k v hkv
    obtain ⟨ok, ov, he⟩ := st
    have hit : IsItemIter s.heap it d i es'.size ep' ok ov := hsz ▸ he
    have hlt : it < s.heap.objs.size := Heap.lt_size he
    have hi' : i < es'.size := by omega
    have hen' : es'[i] = en := by
      have := (Array.getElem?_eq_getElem hi').symm.trans hen
      exact Option.some.inj this
    refine wpAny_pyNext_items_item_raw hit raw hi' fun h' ho hT hz hk => ⟨_, rfl, wpAny_letOwnedTupleGo_items (s := { s with heap := h' }) ho fun h2 he2 sb => ?_⟩
    rw [hen'] at hT he2
    have hT2 : h2.get? s.heap.objs.size = some { cls := .type "tuple", data := .seq #[en.key, en.val] } := (sb.2 _ (Nat.ne_of_gt hlt)).trans hT
    have new : ObjOk X.prog X.w (upd H s.heap.objs.size (.tup [.ref q, v])) h2 s.heap.objs.size (.tup [.ref q, v]) :=
      ⟨(by show 2 ≤ sizeLine; decide), [en.key, en.val], .cons hkey (.cons hval .nil), ⟨_, hT2, rfl, _, rfl⟩⟩
    have J : Inv X pins σ (upd H s.heap.objs.size (.tup [.ref q, v])) { s with heap := h2 } :=
      I.turnedNew (t' := s.toks) (ch := [it]) (fun b ob hb e => (sb.2 b (fun z => hb (by rw [z]; exact List.mem_singleton.mpr rfl))).trans (hk b ob (fun z => hb (by rw [z]; exact List.mem_singleton.mpr rfl)) e)) hf (Nat.le_refl _) new
    refine ⟨.ref s.heap.objs.size, _, J, rfl, ⟨_, k, v, q, hkv, rfl, hq, I.hok.fresh (Nat.le_refl _), rfl⟩, ⟨en.key, en.val, hsz ▸ he2⟩, fun b hb => ?_⟩
    cases List.mem_singleton.mp hb
    rw [upd_ne (Nat.ne_of_lt hlt)]
    exact (hf _ (List.mem_singleton.mpr rfl)).1
  done := by
    intro X hP hw hK hc i pins s σ H E I hf st hg
    cases hP; cases hw; cases hK
    obtain ⟨hd, hi⟩ := hg
    obtain ⟨f0, f1, f2, f3, f4, f5⟩ := hf it (List.mem_singleton.mpr rfl)
    obtain ⟨hs, es', ep', hdt, raw, hsz, ent⟩ := I.frzTV hd
    obtain ⟨rfl, rfl⟩ := dict_ep hod hdt
    obtain ⟨ok, ov, he⟩ := st
    have hit : IsItemIter s.heap it d i es'.size ep' ok ov := hsz ▸ he
    exact wpAny_pyNext_items_end_raw (I.ok.hd hc) hit raw (by omega) fun h' eb => ⟨rfl, I.turned (t' := s.toks) (fun b ob hb e => eb b ob hb e) f0 f1 f3 f4 f5⟩
  self := fun A i s Q E ⟨_, _, e⟩ h => PySem.W.kcp_self e h
def iItemsT (td : TE) : TI := fun σ H R => td σ H fun x H1 => ∃ d o kvs, x = .ref d ∧ H1 d = some (.frz o (.dT kvs)) ∧ R (Itit d o kvs) H1
theorem pi_itemsT {X : Cx} {e : Expr} {td : TE} {apos cpos : Pos} {elts : List Expr} {kk : Nat} {tpos : Pos} (he : PE X e td) (hb : attributeBase e "items" X.env (eval e X.env) = eval e X.env) (hl : (apos.endLine == cpos.line) = true) :
    PI X (.Tuple elts kk tpos) (.Call (.Attribute e "items" apos) [] [] cpos) (iItemsT td) := by
  refine ⟨fun pins s σ H R I h => wpAny_Call_method (T := "dict") (id := "dict.items") hb rfl hl F.plainAttrs_dict F.slot_dict_items F.type_dict_items (thn (he.run pins s σ H _ I h) fun u s1 ⟨x, H1, I1, rx, d, o, kvs, ex, hd, q⟩ => ?_)⟩
  subst ex
  obtain rfl : u = Value.ref d := rx
  obtain ⟨hs, es, ep, hdt, raw, hsz, ent⟩ := I1.frzTV hd
  have ty : s1.TypeIs (.ref d) "dict" := raw.typeIs
  refine ⟨ty, fun b z => ?_, ?_⟩
  · cases z
    obtain ⟨ob, e1, e2, _⟩ := id raw
    exact ⟨ob, e1, e2.2.1⟩
  have J : Inv X pins σ H1 { s1 with heap := s1.heap.push { cls := .type "dict_items", data := .fields #[.ref d] } } := I1.kept (t' := s1.toks) fun b ob q => Heap.get?_push_of_some _ q
  have fin : wpAny (model X.prog X.w) X.A (pyIter (.ref s1.heap.objs.size)) (PIE X pins σ (.Tuple elts kk tpos) R) X.xe { s1 with heap := s1.heap.push { cls := .type "dict_items", data := .fields #[.ref d] } } := by
    refine wpAny_pyIter_items_raw (d := d) (es := es) (ep := ep) ⟨_, Heap.get?_push_size _ rfl, rfl, rfl⟩ (raw.at fun _ e => Heap.get?_push_of_some _ e) (pi_one (tk := s1.toks) J _ (turn_itemsT _ hdt) ⟨.none, .none, ?_⟩ q)
    rw [← hsz]
    exact Heap.get?_push_size _ rfl
  show wpAny _ _ (callWith cpos (.builtin "dict.items") [.ref d] [] []) _ X.xe s1
  exact method_meetsIn F.slot_dict_items F.entry_dict_items rfl (PySem.evalArgs_none ⟨rfl, ty, F.args_dict_items_1 _, _, meets_dict_items_raw d hs, ⟨es, ep, raw⟩, fin⟩)
theorem walk_itemsT {d : Addr} {o : Obj} {kvs : List (List Key × V)} : Walk (Itit d o kvs) kvs.length (fun H => H d = some (.frz o (.dT kvs)))
    (fun i H x H' => ∃ T k v q, kvs[i]? = some (k, v) ∧ x = .ref T ∧ H q = some (.tup (k.map kV)) ∧ H T = none ∧ H' = upd H T (.tup [.ref q, v])) :=
  ⟨fun i H hi g => ⟨g, hi⟩, fun H g => ⟨g, Nat.le_refl _⟩, fun i H x H' _ _ y => y⟩
end L2
set_option Elab.async false
set_option linter.all false
set_option maxRecDepth 100000
set_option maxHeartbeats 4000000
namespace DD
open PySem PySem.Spec L2 RZ
/-! ## frozen dicts walked -/
section
variable {c : Ct} {w : Wd} {h : Hd} {H : Hp}
/-- a tuple that lies there is taken as frozen -/
theorem SR.adopt {q : Addr} {vs : List V} (s : SR c w h H) (e : H q = some (.tup vs)) : ∃ w', Le w w' ∧ SR c w' h H ∧ w'.F q = some (.tup vs) := by
  cases f : w.F q with
  | some o =>
    have := s.F q o f
    rw [e] at this; cases this
    exact ⟨w, .refl w, s, f⟩
  | none =>
    have fr : FreshAt w q := ⟨f, by
      cases p : w.P q with
      | none => rfl
      | some o =>
        have := s.P q o p
        rw [e] at this; cases this
        exact absurd rfl ((s.tab.nP q _ p).2 vs), fun r z => by
      obtain ⟨lt, _⟩ := s.dom r q z
      have ez : h[r]? = some h[r] := List.getElem?_eq_getElem lt
      by_cases g : h[r] = .gone
      · rw [g] at ez
        obtain ⟨o, eo, _⟩ := s.ng r q ez z
        rw [f] at eo; cases eo
      · obtain ⟨b, q1, _, _, k⟩ := s.cell r _ ez g
        rw [z] at q1; cases q1
        generalize h[r] = cell at k g
        cases cell with
        | gone => exact g rfl
        | lst xs => obtain ⟨_, k, _⟩ := k; rw [e] at k; cases k
        | dct ks us => obtain ⟨_, k, _⟩ := k; rw [e] at k; cases k
        | dtt ks us => obtain ⟨_, k, _⟩ := k; rw [e] at k; cases k
        | ins n ns us => obtain ⟨_, _, _, _, k, _⟩ := k; rw [e] at k; cases k⟩
    obtain ⟨l, s'⟩ := s.fz fr e (plain_tup vs)
    exact ⟨_, l, s', upd_same⟩
theorem key_VR {d : D} {k : Key} (e : keyD d = some k) : VR c w d (kV k) := by
  cases d <;> simp [keyD] at e <;> (subst e; simp only [VR]; rfl)
theorem keys_VR : ∀ {ds : List D} {ks : List Key}, keysD ds = some ks → VRs c w ds (ks.map kV)
  | [], ks, e => by simp [keysD] at e; subst e; exact .nil
  | d :: ds, ks, e => by
    unfold keysD at e
    split at e
    · rename_i k l e1 e2
      cases e
      exact .cons (key_VR e1) (keys_VR e2)
    · cases e
theorem tkey_VR {d : D} {k : List Key} {q : Addr} (e : tkeyD d = some k) (f : w.F q = some (.tup (k.map kV))) : VR c w d (.ref q) := by
  cases d with
  | tup xs =>
    have e' : keysD xs = some k := e
    simp only [VR]
    exact ⟨q, _, rfl, f, keys_VR e'⟩
  | _ => cases e
theorem get_map {α β : Type} {f : D → Option α} {ks : List D} {kvs : List (α × β)} {i : Nat} {p : α × β} (e : ks.map f = kvs.map (fun p => some p.1)) (g : kvs[i]? = some p) : ∃ d, ks[i]? = some d ∧ f d = some p.1 := by
  have := congrArg (fun l => l[i]?) e
  simp only [List.getElem?_map, g, Option.map_some] at this
  cases q : ks[i]? with
  | none => rw [q] at this; cases this
  | some d => rw [q] at this; exact ⟨d, rfl, Option.some.inj this⟩
theorem srcKeys {a : Addr} {od : Obj} {ks us : List D} {kvs : List (Key × V)} (f : w.F a = some (.frz od (.dK kvs))) (e : ks.map keyD = kvs.map (fun p => some p.1)) : SrcOk c w ⟨ks, fun _ => True⟩ (Itk a od kvs) := by
  have el : kvs.length = ks.length := by simpa using (congrArg List.length e).symm
  refine ⟨fun H => H a = some (.frz od (.dK kvs)), fun i H x H' => H' = H ∧ ∃ k v, kvs[i]? = some (k, v) ∧ x = kV k, ⟨fun i H hi g => ⟨g, by rw [el]; exact hi⟩, fun H g => ⟨g, by rw [el]; exact Nat.le_refl _⟩, fun i H x H' _ _ y => y⟩, fun w2 h2 H2 l s _ => s.F _ _ (l.F _ _ f), fun i x H2 H3 w2 h2 hi l s _ y => ?_⟩
  obtain ⟨rfl, k, v, g, rfl⟩ := y
  obtain ⟨d, e1, e2⟩ := get_map e g
  exact ⟨w2, d, .refl _, s, e1, key_VR e2⟩
theorem srcKeysT {a : Addr} {od : Obj} {ks us : List D} {kvs : List (List Key × V)} (f : w.F a = some (.frz od (.dT kvs))) (e : ks.map tkeyD = kvs.map (fun p => some p.1)) : SrcOk c w ⟨ks, fun _ => True⟩ (Itkt a od kvs) := by
  have el : kvs.length = ks.length := by simpa using (congrArg List.length e).symm
  refine ⟨fun H => H a = some (.frz od (.dT kvs)), fun i H x H' => H' = H ∧ ∃ (k : List Key) (v : V) (q : Addr), kvs[i]? = some (k, v) ∧ x = .ref q ∧ H q = some (.tup (k.map kV)), ⟨fun i H hi g => ⟨g, by rw [el]; exact hi⟩, fun H g => ⟨g, by rw [el]; exact Nat.le_refl _⟩, fun i H x H' _ _ y => y⟩, fun w2 h2 H2 l s _ => s.F _ _ (l.F _ _ f), fun i x H2 H3 w2 h2 hi l s _ y => ?_⟩
  obtain ⟨rfl, k, v, q, g, rfl, hq⟩ := y
  obtain ⟨d, e1, e2⟩ := get_map e g
  obtain ⟨w3, l3, s3, f3⟩ := s.adopt hq
  exact ⟨w3, d, l3, s3, e1, tkey_VR e2 f3⟩
def pairsD (ks us : List D) : List D := (ks.zip us).map fun p => .tup [p.1, p.2]
theorem pairsD_at {ks us : List D} {i : Nat} {k u : D} (e1 : ks[i]? = some k) (e2 : us[i]? = some u) : (pairsD ks us)[i]? = some (.tup [k, u]) := by
  unfold pairsD
  have z : (ks.zip us)[i]? = some (k, u) := by simp [List.getElem?_zip_eq_some, e1, e2]
  rw [List.getElem?_map, z]; rfl
theorem pairsD_len {ks us : List D} (e : us.length = ks.length) : (pairsD ks us).length = ks.length := by simp [pairsD, e]
theorem srcItems {a : Addr} {od : Obj} {ks us : List D} {kvs : List (Key × V)} (f : w.F a = some (.frz od (.dK kvs))) (e : ks.map keyD = kvs.map (fun p => some p.1)) (r : VRs c w us (kvs.map (·.2))) : SrcOk c w ⟨pairsD ks us, fun _ => True⟩ (Iti a od kvs) := by
  have el : kvs.length = ks.length := by simpa using (congrArg List.length e).symm
  have ul : us.length = ks.length := by rw [r.len, List.length_map, el]
  refine ⟨fun H => H a = some (.frz od (.dK kvs)), fun i H x H' => ∃ T k v, kvs[i]? = some (k, v) ∧ x = .ref T ∧ H T = none ∧ H' = upd H T (.tup [kV k, v]), ⟨fun i H hi g => ⟨g, by rw [el, ← pairsD_len ul]; exact hi⟩, fun H g => ⟨g, by rw [el, pairsD_len ul]; exact Nat.le_refl _⟩, fun i H x H' _ _ y => y⟩, fun w2 h2 H2 l s _ => s.F _ _ (l.F _ _ f), fun i x H2 H3 w2 h2 hi l s _ y => ?_⟩
  obtain ⟨T, k, v, g, rfl, hT, rfl⟩ := y
  obtain ⟨d, e1, e2⟩ := get_map e g
  obtain ⟨u, e3, ru⟩ := r.get' (i := i) (v := v) (by rw [List.getElem?_map, g]; rfl)
  obtain ⟨w3, l3, s3, r3⟩ := new_tup s (VRs.cons (key_VR (c := c) (w := w2) e2) (.one (ru.le0 l))) hT
  exact ⟨w3, .tup [d, u], l3, s3, pairsD_at e1 e3, r3⟩
theorem srcItemsT {a : Addr} {od : Obj} {ks us : List D} {kvs : List (List Key × V)} (f : w.F a = some (.frz od (.dT kvs))) (e : ks.map tkeyD = kvs.map (fun p => some p.1)) (r : VRs c w us (kvs.map (·.2))) : SrcOk c w ⟨pairsD ks us, fun _ => True⟩ (Itit a od kvs) := by
  have el : kvs.length = ks.length := by simpa using (congrArg List.length e).symm
  have ul : us.length = ks.length := by rw [r.len, List.length_map, el]
  refine ⟨fun H => H a = some (.frz od (.dT kvs)), fun i H x H' => ∃ T k v q, kvs[i]? = some (k, v) ∧ x = .ref T ∧ H q = some (.tup (k.map kV)) ∧ H T = none ∧ H' = upd H T (.tup [.ref q, v]), ⟨fun i H hi g => ⟨g, by rw [el, ← pairsD_len ul]; exact hi⟩, fun H g => ⟨g, by rw [el, pairsD_len ul]; exact Nat.le_refl _⟩, fun i H x H' _ _ y => y⟩, fun w2 h2 H2 l s _ => s.F _ _ (l.F _ _ f), fun i x H2 H3 w2 h2 hi l s _ y => ?_⟩
  obtain ⟨T, k, v, q, g, rfl, hq, hT, rfl⟩ := y
  obtain ⟨d, e1, e2⟩ := get_map e g
  obtain ⟨u, e3, ru⟩ := r.get' (i := i) (v := v) (by rw [List.getElem?_map, g]; rfl)
  obtain ⟨w3, l3, s3, f3⟩ := s.adopt hq
  obtain ⟨w4, l4, s4, r4⟩ := new_tup s3 (VRs.cons (tkey_VR e2 f3) (.one ((ru.le0 l).le l3))) hT
  exact ⟨w4, .tup [d, u], l3.trans l4, s4, pairsD_at e1 e3, r4⟩
end
/-- what a for walks: also a frozen dict's keys -/
def srcOfD (h : Hd) : D → Option Src
  | .dct ks _ => some ⟨ks, fun _ => True⟩
  | .dtt ks _ => some ⟨ks, fun _ => True⟩
  | d => srcOf h d
def mIterD (m : ME) : MI := fun ρ h => (m ρ h).bind fun d h => optR (srcOfD h d) h
/-- d.items() -/
def itemsD : D → Option Src
  | .dct ks us => some ⟨pairsD ks us, fun _ => True⟩
  | .dtt ks us => some ⟨pairsD ks us, fun _ => True⟩
  | _ => none
def mItems (m : ME) : MI := fun ρ h => (m ρ h).bind fun d h => optR (itemsD d) h
section
variable {X : Cx} {W : WX} {e a : Expr} {ma : ME} {apos cpos : Pos}
theorem i_anyD {tg : Expr} (ha : SE X W a ma) : SI X W tg a (mIterD ma) := PI.imp (PI.or (pi_any ha) (pi_keys ha)) fun σ H R q => by
  obtain ⟨w, ρ, h, er, s, p⟩ := q
  unfold mIterD at p
  cases e1 : ma ρ h with
  | bad => rw [e1] at p; exact p.elim
  | exc x h1 =>
    rw [e1] at p
    exact .inl ⟨w, ρ, h, er, s, by rw [e1]; exact p⟩
  | ok d h1 =>
    rw [e1] at p
    have p' : Post (fun w _ s J => SrcOk (Cx.ct X) w s J) (Cx.ct X) w W σ (optR (srcOfD h1 d) h1) R := p
    cases d with
    | dct ks us =>
      refine .inr ⟨w, ρ, h, er, s, ?_⟩
      rw [e1]
      intro v w1 H1 l r s1
      simp only [VR] at r
      obtain ⟨a, od, kvs, rfl, f, k, z⟩ := r
      exact ⟨a, od, rfl, .inl ⟨kvs, s1.F _ _ f, p' _ w1 H1 l (srcKeys (us := us) f k) s1⟩⟩
    | dtt ks us =>
      refine .inr ⟨w, ρ, h, er, s, ?_⟩
      rw [e1]
      intro v w1 H1 l r s1
      simp only [VR] at r
      obtain ⟨a, od, kvs, rfl, f, k, z⟩ := r
      exact ⟨a, od, rfl, .inr ⟨kvs, s1.F _ _ f, p' _ w1 H1 l (srcKeysT (us := us) f k) s1⟩⟩
    | _ =>
      have q2 : tI (Cx.ct X) W (mIter ma) σ H R := ⟨w, ρ, h, er, s, by unfold mIter; rw [e1]; exact p'⟩
      exact .inl (any_rd q2)
theorem i_items {elts : List Expr} {kk : Nat} {tpos : Pos} (ha : SE X W a ma) (hb : attributeBase a "items" X.env (eval a X.env) = eval a X.env := by rfl) (hl : (apos.endLine == cpos.line) = true := by rfl) :
    SI X W (.Tuple elts kk tpos) (.Call (.Attribute a "items" apos) [] [] cpos) (mItems ma) := PI.imp (PI.or (pi_items ha hb hl) (pi_itemsT ha hb hl)) fun σ H R q => by
  obtain ⟨w, ρ, h, er, s, p⟩ := q
  unfold mItems at p
  cases e1 : ma ρ h with
  | bad => rw [e1] at p; exact p.elim
  | exc x h1 => rw [e1] at p; exact .inl ⟨w, ρ, h, er, s, by rw [e1]; exact p⟩
  | ok d h1 =>
    rw [e1] at p
    have p' : Post (fun w _ s J => SrcOk (Cx.ct X) w s J) (Cx.ct X) w W σ (optR (itemsD d) h1) R := p
    cases d with
    | dct ks us =>
      refine .inl ⟨w, ρ, h, er, s, ?_⟩
      rw [e1]
      intro v w1 H1 l r s1
      simp only [VR] at r
      obtain ⟨a, od, kvs, rfl, f, k, z⟩ := r
      exact ⟨a, od, kvs, rfl, s1.F _ _ f, p' _ w1 H1 l (srcItems f k z) s1⟩
    | dtt ks us =>
      refine .inr ⟨w, ρ, h, er, s, ?_⟩
      rw [e1]
      intro v w1 H1 l r s1
      simp only [VR] at r
      obtain ⟨a, od, kvs, rfl, f, k, z⟩ := r
      exact ⟨a, od, kvs, rfl, s1.F _ _ f, p' _ w1 H1 l (srcItemsT f k z) s1⟩
    | _ => exact p'.elim
/-! running them -/
def itDK : Res D → Res Src
  | .ok d h => optR (srcOfD h d) h
  | .exc x h => .exc x h
  | .bad => .bad
@[simp] theorem itDK_ok (d : D) (h : Hd) : itDK (.ok d h) = optR (srcOfD h d) h := rfl
@[simp] theorem mIterD_k (m : ME) (ρ : Env) (h : Hd) : mIterD m ρ h = itDK (m ρ h) := by unfold mIterD itDK; cases m ρ h <;> rfl
def itemsK : Res D → Res Src
  | .ok d h => optR (itemsD d) h
  | .exc x h => .exc x h
  | .bad => .bad
@[simp] theorem itemsK_ok (d : D) (h : Hd) : itemsK (.ok d h) = optR (itemsD d) h := rfl
@[simp] theorem mItems_k (m : ME) (ρ : Env) (h : Hd) : mItems m ρ h = itemsK (m ρ h) := by unfold mItems itemsK; cases m ρ h <;> rfl
variable {h : Hd}
@[simp] theorem srcOfD_tup (xs : List D) : srcOfD h (.tup xs) = some ⟨xs, fun _ => True⟩ := rfl
@[simp] theorem srcOfD_ktp (xs : List D) : srcOfD h (.ktp xs) = some ⟨xs, fun _ => True⟩ := rfl
@[simp] theorem srcOfD_lst (xs : List D) : srcOfD h (.lst xs) = some ⟨xs, fun _ => True⟩ := rfl
@[simp] theorem srcOfD_rol (xs : List D) : srcOfD h (.rol xs) = some ⟨xs, fun _ => True⟩ := rfl
@[simp] theorem srcOfD_str (s : Str) : srcOfD h (.str s) = some ⟨signs s, fun _ => True⟩ := rfl
@[simp] theorem srcOfD_dct (ks us : List D) : srcOfD h (.dct ks us) = some ⟨ks, fun _ => True⟩ := rfl
@[simp] theorem srcOfD_dtt (ks us : List D) : srcOfD h (.dtt ks us) = some ⟨ks, fun _ => True⟩ := rfl
@[simp] theorem itemsD_dct (ks us : List D) : itemsD (.dct ks us) = some ⟨pairsD ks us, fun _ => True⟩ := rfl
@[simp] theorem itemsD_dtt (ks us : List D) : itemsD (.dtt ks us) = some ⟨pairsD ks us, fun _ => True⟩ := rfl
theorem srcOfD_ref {r : Nat} {xs : List D} (e : h[r]? = some (.lst xs)) : srcOfD h (.ref r) = some ⟨xs, fun h => h[r]? = some (.lst xs)⟩ := by
  show srcOf h (.ref r) = _
  simp only [srcOf, e]
end
end DD
set_option Elab.async false
set_option linter.all false
set_option maxRecDepth 100000
set_option maxHeartbeats 4000000
namespace PySem
open Sem (wp)
open AutoSeq1 (wpAny_loadPart')
/-- enumerate(v): the one argument, v told by how it begins -/
theorem enum_new1 {v : Value} {o : Obj} {H : Heap → Prop} (B : Begins v o H) :
    Meets (Builtin.«enumerate.__new__» ⟨[.type "enumerate", v], []⟩) (fun _ R s => H s.heap ∧
      R (.ok (.ret (.ref (s.heap.push o).objs.size))) { s with heap := (s.heap.push o).push { cls := .type "enumerate", data := .fields #[.none, .bool false, .ref s.heap.objs.size, rawInt 0, .none, .none] } }) :=
  .of_wp fun prog w A R s h => by
    obtain ⟨hp, g, d, tk, os⟩ := s
    obtain ⟨hv, hR⟩ := h
    have hsub := sub_enumerate
    have begin_ : ∀ {A' : Around} {E : Value → Shared → Prop} {Q : Value → Shared → Prop}, Q (.ref hp.objs.size) ⟨hp.push o, g, d, tk, os⟩ → wpAny (model prog w) A' (pyIter v) Q E ⟨hp, g, d, tk, os⟩ :=
      fun q => B.iter prog w _ _ ⟨hp, g, d, tk, os⟩ _ hv q
    wp_walk using begin_
    refine wpAny_stack_any fun st => wpAny_pure ?_
    split
    · rename_i c _ _ _ _ _
      cases (c == Value.type "enumerate") <;> (wp_walk using begin_; exact ⟨_, rfl, hR⟩)
    · wp_walk using begin_
      exact ⟨_, rfl, hR⟩
theorem enum_call1 {prog : Program} {w : World} {A : Around} {E : Value → Shared → Prop} {s : Shared} {v : Value} {o : Obj} {H : Heap → Prop} {Q : Value → Shared → Prop} (B : Begins v o H) (h1 : H s.heap)
    (h : ∀ h', IsEnum h' (s.heap.objs.size + 1) s.heap.objs.size 0 .none → h'.get? s.heap.objs.size = some o → (∀ b o, s.heap.get? b = some o → h'.get? b = some o) → Q (.ref (s.heap.objs.size + 1)) { s with heap := h' }) :
    wpAny (model prog w) A (call (.type "enumerate") [v]) Q E s := by
  refine callType_new F.called_enumerate (by decide) (F.typeCall_enumerate_1 _) (F.newCall_enumerate_1 _) (fun obj => F.args_object_init_2 obj _) F.entry_enumerate_new (enum_new1 B) ⟨h1, ?_⟩
  have hz : (s.heap.push o).objs.size = s.heap.objs.size + 1 := Heap.size_push ..
  rw [hz]
  have he : IsEnum ((s.heap.push o).push { cls := .type "enumerate", data := .fields #[.none, .bool false, .ref s.heap.objs.size, rawInt 0, .none, .none] }) (s.heap.objs.size + 1) s.heap.objs.size 0 .none := by
    have z := Heap.get?_push_size (s.heap.push o) (o := { cls := .type "enumerate", data := .fields #[.none, .bool false, .ref s.heap.objs.size, rawInt 0, .none, .none] }) rfl
    rw [hz] at z; exact z
  exact ⟨⟨_, he, rfl⟩, h _ he (Heap.get?_push_of_some _ (Heap.get?_push_size _ B.free)) fun b o x => Heap.get?_push_of_some _ (Heap.get?_push_of_some _ x)⟩
end PySem
namespace L2
open PySem PySem.Spec PyProof.Rows
/-! enumerate(a tuple) -/
def Itet (K : PySem.W.Frag) (a : Addr) : It :=
  ⟨fun i H => ∃ (xs : List V) (x : V), SqT K H a xs ∧ xs[i]? = some x, fun i H v H' => ∃ T x, v = .ref T ∧ H T = none ∧ H' = upd H T (.tup [.int (i : Nat), x]) ∧ ∀ xs, SqT K H a xs → xs[i]? = some x, fun i H => ∃ xs : List V, SqT K H a xs ∧ xs.length = i⟩
theorem turn_enumT {P : Program} {w : World} {K : PySem.W.Frag} {elts : List Expr} {kk : Nat} {tpos : Pos} (a e it : Addr) :
    Turn P w K (.Tuple elts kk tpos) (Itet K a) [e, it] e (fun i h => (∃ old, IsEnum h e it ((i : Nat) : Int) old) ∧ h.IsTupleIter it a i ∧ e ≠ it ∧ a ≠ e ∧ a ≠ it) where
  mem := by simp
  obj := fun i h st b hb => by
    obtain ⟨⟨old, he⟩, ⟨o, ho, hc, hd⟩, _⟩ := st
    have e' : b = e ∨ b = it := by simpa using hb
    rcases e' with z | z
    · rw [z]; exact ⟨_, he, fun v q => nomatch q⟩
    · rw [z]; exact ⟨o, ho, fun v q => by rw [hd] at q; cases q⟩
  keep := fun i h h' st k => let ⟨⟨old, he⟩, hi, hne⟩ := st; ⟨⟨old, k e (by simp) _ he⟩, hi.at fun o q => k it (by simp) o q, hne⟩
  item := by
    intro X hP hw hK hc i pins s σ H E I hf st hg
    subst hP hw hK
    obtain ⟨⟨old, he⟩, hit, hne, hae, hai⟩ := st
    obtain ⟨xs, x, hq, hx⟩ := hg
    obtain ⟨its, rv, p, hz⟩ := I.tuple hq
    obtain ⟨u, hu, ru⟩ := rv.get hx
    have hel : e < s.heap.objs.size := Heap.lt_size he
    have hil : it < s.heap.objs.size := by obtain ⟨_, q, _⟩ := hit; exact Heap.lt_size q
    have hlt : i < its.toArray.size := by
      have := (List.getElem?_eq_some_iff.mp hu).1
      simpa using this
    refine wpAny_pyNext_enum_itemC (i := i) (c := ((i : Nat) : Int)) (St := fun i h => h.IsTupleIter it a i ∧ h.IsTuple a its.toArray) (Draws.tuple (A := X.A.in1) (I.ok.hd hc) it a hai its.toArray) he ⟨hit, p⟩ hlt hne (by simp [hne, hae.symm]) fun x1 h' tk g1 ho st' hT hsz hk => ?_
    have ex : x1 = u := by
      have q : its.toArray[i]? = some x1 := g1
      have q' : its[i]? = some x1 := by simpa using q
      rw [hu] at q'; exact (Option.some.inj q').symm
    subst ex
    refine ⟨_, rfl, wpAny_letOwnedTupleGo_enum (s := { s with heap := h', toks := tk + 1 }) ho fun h'' he' sb => ?_⟩
    have hT2 : h''.get? s.heap.objs.size = some { cls := .type "tuple", data := .seq #[.int i tk, x1] } := (sb.2 _ (Nat.ne_of_gt hel)).trans hT
    have new : ObjOk X.prog X.w (upd H s.heap.objs.size (.tup [.int (i : Nat), x])) h'' s.heap.objs.size (.tup [.int (i : Nat), x]) :=
      ⟨by show 2 ≤ sizeLine; decide, [.int i tk, x1], .cons ⟨_, rfl⟩ (.cons ru .nil), ⟨_, hT2, rfl, _, rfl⟩⟩
    have I1 : Inv X pins σ (upd H s.heap.objs.size (.tup [.int (i : Nat), x])) { s with heap := h'', toks := tk + 1 } :=
      I.turnedNew (t' := tk + 1) (ch := [e, it]) (fun b ob hb q => (sb.2 b (fun z => hb (by simp [z]))).trans (hk b ob (fun z => hb (by simp [z])) (fun z => hb (by simp [z])) q)) hf (Nat.le_refl _) new
    refine ⟨.ref s.heap.objs.size, _, I1, rfl, ⟨_, x, rfl, I.hok.fresh (Nat.le_refl _), rfl, fun ys hy => by rw [I.tuple_inj hy hq]; exact hx⟩, ⟨⟨x1, ?_⟩, st'.1.at fun o q => (sb.2 it (Ne.symm hne)).trans q, hne, hae, hai⟩, fun b hb => ?_⟩
    · have e1 : ((i + 1 : Nat) : Int) = (i : Int) + 1 := by omega
      rw [e1]; exact he'
    · have hb' : b < s.heap.objs.size := by
        have e' : b = e ∨ b = it := by simpa using hb
        rcases e' with z | z
        · rw [z]; exact hel
        · rw [z]; exact hil
      rw [upd_ne (Nat.ne_of_lt hb')]
      exact (hf b hb).1
  done := by
    intro X hP hw hK hc i pins s σ H E I hf st hg
    subst hP hw hK
    obtain ⟨⟨old, he⟩, hit, hne, hae, hai⟩ := st
    obtain ⟨xs, hq, hx⟩ := hg
    obtain ⟨its, rv, p, hz⟩ := I.tuple hq
    obtain ⟨f0, f1, f2, f3, f4, f5⟩ := hf it (by simp)
    have hl := rv.length
    have en : its.toArray.size = i := by simp; omega
    subst en
    exact wpAny_pyNext_enum_endD (St := fun i h => h.IsTupleIter it a i ∧ h.IsTuple a its.toArray) (Draws.tuple (A := X.A.in1) (I.ok.hd hc) it a hai its.toArray) he ⟨hit, p⟩ fun h' eb => ⟨rfl, I.turned (t' := s.toks) (fun b o hb q => eb b o hb q) f0 f1 f3 f4 f5⟩
  self := fun A i s Q E st h => let ⟨⟨_, he⟩, _⟩ := st; wpAny_pyIter_enum he h
def iEnumT (K : PySem.W.Frag) (ta : TA) : TI := fun σ H R => ta σ H fun vs H1 => ∃ a xs, vs = [.ref a] ∧ SqT K H1 a xs ∧ R (Itet K a) H1
theorem pi_enumT {X : Cx} {e : Expr} {ta : TA} {p pos tpos : Pos} {elts : List Expr} {kk : Nat} (hg : Gl X "enumerate") (hm : X.mg "enumerate" = none) (ha : PA X [e] ta) (hs : starEach [e] X.env = [(false, eval e X.env)] := by rfl) :
    PI X (.Tuple elts kk tpos) (.Call (.Name "enumerate" p) [e] [] pos) (iEnumT X.K ta) := by
  refine ⟨fun pins s σ H R I h => ?_⟩
  refine Call_ (ld_blt I hg hm boot_enumerate (PyProof.Rows.callWith_type1 (thn (ha.run pos pins s σ H _ I h) fun us s1 ⟨vs, H1, I1, r1, q1⟩ => ?_) hs rfl))
  obtain ⟨a, xs, ex, hq, q⟩ := q1
  subst ex
  cases r1 with
  | cons r rr =>
    cases rr
    cases r
    obtain ⟨its, rv, p', hz⟩ := I1.tuple hq
    have hlt : a < s1.heap.objs.size := by obtain ⟨o, ho, _⟩ := id p'; exact Heap.lt_size ho
    refine enum_call1 (begins_tuple a its.toArray) (show s1.heap.IsTuple a its.toArray from p') fun h' he hit hk => wpAny_pyIter_enum he ?_
    have I2 : Inv X pins σ H1 { s1 with heap := h' } := I1.kept (t' := s1.toks) hk
    refine ⟨s1.heap.objs.size + 1, [s1.heap.objs.size + 1, s1.heap.objs.size], _, _, H1, rfl, I2, turn_enumT a (s1.heap.objs.size + 1) s1.heap.objs.size, ⟨⟨.none, he⟩, ⟨_, hit, rfl, rfl⟩, Nat.succ_ne_self _, Nat.ne_of_lt (Nat.lt_succ_of_lt hlt), Nat.ne_of_lt hlt⟩, fun b hb => ?_, q⟩
    have e' : b = s1.heap.objs.size + 1 ∨ b = s1.heap.objs.size := by simpa using hb
    have hle : s1.heap.objs.size ≤ b := by
      rcases e' with z | z
      · rw [z]; exact Nat.le_add_right _ _
      · rw [z]; exact Nat.le_refl _
    exact I1.fpOk hle (I1.hok.fresh hle)
/-! in, not in a dict -/
def rInDct (n : Bool) : R2 := fun x y H Q => ∃ a o, y = .ref a ∧ DGet H a x o ∧ Q (.bl (if n then !o.isSome else o.isSome)) H
theorem op_inDct {X : Cx} (hu : X.A.units + 1 < cLine) : OpR X (compareOp .In) (rInDct false) := by
  intro pins s σ H x y v u Q I rx ry h
  obtain ⟨a, o, rfl, g, q⟩ := h
  obtain rfl : u = Value.ref a := ry
  exact d_in hu I g rx fun s' I' => ⟨.bl o.isSome, H, I', rfl, q⟩
theorem op_notInDct {X : Cx} (hu : X.A.units + 1 < cLine) : OpR X (compareOp .NotIn) (rInDct true) := by
  intro pins s σ H x y v u Q I rx ry h
  obtain ⟨a, o, rfl, g, q⟩ := h
  obtain rfl : u = Value.ref a := ry
  exact d_notIn hu I g rx fun s' I' => ⟨.bl (!o.isSome), H, I', rfl, q⟩
end L2
set_option Elab.async false
set_option linter.all false
set_option maxRecDepth 100000
set_option maxHeartbeats 4000000
namespace L2
open PySem PySem.Spec
/-- a statement ahead of which a dict may be locked for good -/
theorem ps_lockP {X : Cx} {st : Stmt} {t : TS} (h : PS X st t) : PS X st (fun Dn σ H => t Dn σ H ∨ ∃ d u, H d = some u ∧ Mut (some u) ∧ ∀ od, t Dn σ (upd H d (.frz od u))) := by
  refine ⟨fun pins s σ H Dn I q => ?_⟩
  rcases q with q | ⟨d, u, hd, mu, q⟩
  · exact h.run pins s σ H Dn I q
  · obtain ⟨od, I1⟩ := I.lock hd mu
    exact h.run pins s σ _ Dn I1 (q od)
end L2
namespace DD
open PySem PySem.Spec L2 RZ
/-! ## a name whose own thing freezes -/
def mFzV (i : Nat) (m : MS) : MS := fun ρ h => match ρ[i]? with
  | some (some d) => match frzD d h with
    | .ok d' h' => m (ρ.set i (some d')) h'
    | _ => .bad
  | _ => .bad
section
variable {X : Cx} {W : WX} {st : Stmt} {m : MS}
theorem ER.swap {c : Ct} {w : Wd} {ρ : Env} {σ : L2.St} {i : Nat} {d : D} {v : V} (h : ER c w ρ σ) (e : σ[i]? = some (some v)) (r : VR c w d v) : ER c w (ρ.set i (some d)) σ := by
  refine ⟨by simp [h.1], fun j x ex => ?_⟩
  rw [List.getElem?_set] at ex
  split at ex
  · rename_i hij
    subst hij
    split at ex
    · cases ex; exact ⟨v, e, r⟩
    · cases ex
  · exact h.2 j x ex
theorem s_frz (i : Nat) (h : SS X W st m) : SS X W st (mFzV i m) := PS.imp (ps_lockP h) fun Dn σ H ⟨w, ρ, hd, er, s, p⟩ => by
  unfold mFzV at p
  split at p
  · rename_i d ed
    split at p
    · rename_i d' h' ef
      obtain ⟨v, ev, rv⟩ := er.2 i d ed
      rcases frzD_post (Q := fun v H => ∃ w', Le w w' ∧ SR (Cx.ct X) w' h' H ∧ VR (Cx.ct X) w' d' v) (W := W) (σ := σ) s rv (by rw [ef]; exact fun v2 w' H' l r s' => ⟨w', l, s', r⟩) with ⟨w', l, s', r⟩ | ⟨a, u, ha, mu, q⟩
      · exact .inl ⟨w', _, _, (er.le l).swap ev r, s', PostS.le l p⟩
      · refine .inr ⟨a, u, ha, mu, fun od => ?_⟩
        obtain ⟨w', l, s', r⟩ := q od
        exact ⟨w', _, _, (er.le l).swap ev r, s', PostS.le l p⟩
    · exact p.elim
  · exact p.elim
end
/-! ## in, not in: also a dict -/
def cInD (d e : D) (h : Hd) : Res Bool := match dgetF h e d with
  | some o => .ok o.isSome h
  | none => cInX d e h
def cNotInD (d e : D) (h : Hd) : Res Bool := match dgetF h e d with
  | some o => .ok (!o.isSome) h
  | none => cNotInX d e h
theorem s_inD {c : Ct} : OpB c (fun x y H Q => (rInA c.K x y H Q ∨ rInTD c.K false x y H Q) ∨ rInDct false x y H Q) cInD := fun {w W σ h H x y dx dy Q} s rx ry p => by
  unfold cInD at p
  split at p
  · rename_i o eo
    obtain ⟨a, o', rfl, g, q1, q2⟩ := dgetF_ok s ry rx eo
    refine .inr ⟨a, o', rfl, g, ?_⟩
    have e : o'.isSome = o.isSome := by
      cases o with
      | some d => obtain ⟨z, ez, _⟩ := q1 d rfl; rw [ez]; rfl
      | none => cases q2 rfl; rfl
    exact ⟨o.isSome, by simp [e], p.ret rfl s⟩
  · exact .inl (s_inX s rx ry p)
theorem s_notinD {c : Ct} : OpB c (fun x y H Q => (rNotInA c.K x y H Q ∨ rInTD c.K true x y H Q) ∨ rInDct true x y H Q) cNotInD := fun {w W σ h H x y dx dy Q} s rx ry p => by
  unfold cNotInD at p
  split at p
  · rename_i o eo
    obtain ⟨a, o', rfl, g, q1, q2⟩ := dgetF_ok s ry rx eo
    refine .inr ⟨a, o', rfl, g, ?_⟩
    have e : o'.isSome = o.isSome := by
      cases o with
      | some d => obtain ⟨z, ez, _⟩ := q1 d rfl; rw [ez]; rfl
      | none => cases q2 rfl; rfl
    exact ⟨!o.isSome, by simp [e], p.ret rfl s⟩
  · exact .inl (s_notinX s rx ry p)
theorem mono_inDct {n : Bool} (x y : V) (H : Hp) (Q Q' : VK) (i : ∀ v H, Q v H → Q' v H) : rInDct n x y H Q → rInDct n x y H Q' := fun ⟨a, o, e, g, q⟩ => ⟨a, o, e, g, i _ _ q⟩
section
variable {X : Cx} {W : WX} {a b e : Expr} {es : List Expr} {ma mb mo : ME} {mas mks : MA} {pos apos cpos p kpos : Pos} {k n : Nat} {x : Str}
theorem e_inDD (hr : Room k X.A) (ha : SE X W a ma) (hb : SE X W b mb) (hm : behindInMarks .In b = false := by rfl) : SE X W (.Compare a [.In] [b] pos) (mB (mCmp cInD ma mb)) :=
  e_cmp (fun x y H Q Q' i => Or.imp (Or.imp (mono_inA x y H Q Q' i) (mono_inTD x y H Q Q' i)) (mono_inDct x y H Q Q' i)) (((op_inA (hu65 hr)).or (op_inTD (hu66 hr))).or (op_inDct (hu1 hr))) s_inD ha hb hm
theorem e_notinDD (hr : Room k X.A) (ha : SE X W a ma) (hb : SE X W b mb) (hm : behindInMarks .NotIn b = false := by rfl) : SE X W (.Compare a [.NotIn] [b] pos) (mB (mCmp cNotInD ma mb)) :=
  e_cmp (fun x y H Q Q' i => Or.imp (Or.imp (mono_notInA x y H Q Q' i) (mono_inTD x y H Q Q' i)) (mono_inDct x y H Q Q' i)) (((op_notInA (hu65 hr)).or (op_notInTD (hu66 hr))).or (op_notInDct (hu1 hr))) s_notinD ha hb hm
theorem t_inDD (hr : Room k X.A) (ha : SE X W a ma) (hb : SE X W b mb) (hm : behindInMarks .In b = false := by rfl) : ST X W (.Compare a [.In] [b] pos) (mCmp cInD ma mb) := t_cmp (((op_inA (hu65 hr)).or (op_inTD (hu66 hr))).or (op_inDct (hu1 hr))) s_inD ha hb hm
theorem t_notinDD (hr : Room k X.A) (ha : SE X W a ma) (hb : SE X W b mb) (hm : behindInMarks .NotIn b = false := by rfl) : ST X W (.Compare a [.NotIn] [b] pos) (mCmp cNotInD ma mb) := t_cmp (((op_notInA (hu65 hr)).or (op_notInTD (hu66 hr))).or (op_notInDct (hu1 hr))) s_notinD ha hb hm
end
/-! ## sorted(d), list(d), dict(d) -/
theorem keysI_keyD : ∀ {ds : List D} {ns : List Int}, keysI ds = some ns → ds.map keyD = ns.map fun n => some (Sum.inl n)
  | [], ns, e => by simp only [keysI, Option.some.injEq] at e; subst e; rfl
  | d :: ds, ns, e => by
    cases d with
    | int i =>
      simp only [keysI, Option.map_eq_some_iff] at e
      obtain ⟨ns', e1, rfl⟩ := e
      simp only [List.map_cons, keyD, keysI_keyD e1]
    | _ => cases e
theorem map_some_inj {α : Type} : ∀ {l m : List α}, l.map some = m.map some → l = m
  | [], [], _ => rfl
  | [], _ :: _, e => by simp at e
  | _ :: _, [], e => by simp at e
  | a :: l, b :: m, e => by
    simp only [List.map_cons, List.cons.injEq, Option.some.injEq] at e
    rw [e.1, map_some_inj e.2]
theorem keys_V {c : Ct} {w : Wd} : ∀ {ks : List D} {kvs : List (Key × V)}, ks.map keyD = kvs.map (fun p => some p.1) → VRs c w ks (kvs.map fun kv => kV kv.1)
  | [], [], _ => .nil
  | [], _ :: _, e => by simp at e
  | _ :: _, [], e => by simp at e
  | d :: ks, p :: kvs, e => by
    simp only [List.map_cons, List.cons.injEq] at e
    exact .cons (key_VR e.1) (keys_V e.2)
def srtDF : List D → Hd → Res O
  | [x], h => match dctOf h x with
    | some (ks, _) => match keysI ks with
      | some ns => if ns.length < 64 then .ok (.new (.lst ((srtI ns).map .int))) h else .bad
      | none => .bad
    | none => srtF [x] h
  | _, _ => .bad
def rSrtD : List V → Hp → VK → Prop := fun xs H Q => ∃ (a : Addr) (kvs : List (Key × V)) (ks : List Int), xs = [.ref a] ∧ Rd H a (.dK kvs) ∧ kvs.map (·.1) = ks.map Sum.inl ∧ ks.length < 64 ∧
    ∀ (ys : List Int) (p : Addr), ys.Perm ks → ys.Pairwise (· ≤ ·) → H p = none → Q (.ref p) (upd H p (.lst (ys.map V.int)))
theorem cr_srtD {X : Cx} (hc : X.calm = true) : CallR X (.builtin "sorted") (fun xs H Q => rSorted X.K xs H Q ∨ rSrtD xs H Q) := CallR.or cr_sorted (call_sortedDI hc)
theorem s_srtD {c : Ct} : CallS c (fun xs H Q => rSorted c.K xs H Q ∨ rSrtD xs H Q) srtDF := fun {w W σ h H vs ds Q} s r p => by
  unfold srtDF at p
  split at p
  · rename_i x
    split at p
    · rename_i ks us ed
      split at p
      · rename_i ns en
        split at p
        · rename_i hn
          obtain ⟨v, rfl, rv⟩ := r.one_inv
          obtain ⟨a, kvs, rfl, q, kq, z⟩ := dctOf_ok s rv ed
          refine .inr ⟨a, kvs, ns, rfl, q, ?_, hn, fun ms q pm up hnew => ?_⟩
          · have := kq.symm.trans (keysI_keyD en)
            rw [show kvs.map (fun p => some p.1) = (kvs.map (·.1)).map some by rw [List.map_map]; rfl, show ns.map (fun n => some (Sum.inl n : Key)) = (ns.map Sum.inl).map some by rw [List.map_map]; rfl] at this
            exact map_some_inj this
          · rw [srtI_one pm up]
            obtain ⟨s2, r2⟩ := new_obj (z := .lst ((srtI ns).map .int)) s hnew (by intro z; cases z) ⟨_, upd_same, VRs_ints _⟩
            exact p _ w _ (.refl _) r2 s2
        · exact p.elim
      · exact p.elim
    · exact .inl (s_srt s r p)
  · exact p.elim
def listDF : List D → Hd → Res O
  | [x], h => match dctOf h x with
    | some (ks, _) => .ok (.new (.lst ks)) h
    | none => listF [x] h
  | _, _ => .bad
def rListD : List V → Hp → VK → Prop := fun xs H Q => ∃ (a : Addr) (kvs : List (Key × V)), xs = [.ref a] ∧ Rd H a (.dK kvs) ∧ ∀ p, H p = none → Q (.ref p) (upd H p (.lst (kvs.map fun kv => kV kv.1)))
theorem cr_listD {X : Cx} (hc : X.calm = true) : CallR X (.type "list") (fun xs H Q => rListA X.K xs H Q ∨ rListD xs H Q) := CallR.or (call_listA hc) (call_listD hc)
theorem s_listD {c : Ct} : CallS c (fun xs H Q => rListA c.K xs H Q ∨ rListD xs H Q) listDF := fun {w W σ h H vs ds Q} s r p => by
  unfold listDF at p
  split at p
  · rename_i x
    split at p
    · rename_i ks us ed
      obtain ⟨v, rfl, rv⟩ := r.one_inv
      obtain ⟨a, kvs, rfl, q, kq, z⟩ := dctOf_ok s rv ed
      refine .inr ⟨a, kvs, rfl, q, fun q hnew => ?_⟩
      obtain ⟨s2, r2⟩ := new_obj (z := .lst ks) s hnew (by intro z; cases z) ⟨_, upd_same, keys_V kq⟩
      exact p _ w _ (.refl _) r2 s2
    · exact .inl (s_list s r p)
  · exact p.elim
def dictF : List D → Hd → Res O
  | [x], h => match dctOf h x with
    | some (ks, us) => .ok (.new (.dct ks us)) h
    | none => .bad
  | _, _ => .bad
theorem s_dict {c : Ct} : CallS c (fun xs H Q => ∃ (a : Addr) (kvs : List (Key × V)), xs = [.ref a] ∧ Rd H a (.dK kvs) ∧ ∀ p, H p = none → Q (.ref p) (upd H p (.dK kvs))) dictF := fun {w W σ h H vs ds Q} s r p => by
  unfold dictF at p
  split at p
  · rename_i x
    split at p
    · rename_i ks us ed
      obtain ⟨v, rfl, rv⟩ := r.one_inv
      obtain ⟨a, kvs, rfl, q, kq, z⟩ := dctOf_ok s rv ed
      refine ⟨a, kvs, rfl, q, fun q hnew => ?_⟩
      obtain ⟨s2, r2⟩ := new_obj (z := .dct ks us) s hnew (by intro z; cases z) ⟨kvs, upd_same, kq, z⟩
      exact p _ w _ (.refl _) r2 s2
    · exact p.elim
  · exact p.elim
/-! ## enumerate -/
def enumD (xs : List D) : List D := zipD (rangeD 0 xs.length) xs
theorem enumD_len (xs : List D) : (enumD xs).length = xs.length := by unfold enumD; rw [zipD_len, rangeD_len]; omega
theorem enumD_at {xs : List D} {i : Nat} {x : D} (e : xs[i]? = some x) : (enumD xs)[i]? = some (.tup [.int (i : Nat), x]) := by
  refine zipD_get ?_ e
  have hi : i < xs.length := (List.getElem?_eq_some_iff.mp e).1
  simp [rangeD, hi]
def enumF (h : Hd) : List D → Option Src
  | [.tup xs] => some ⟨enumD xs, fun _ => True⟩
  | [.ktp xs] => some ⟨enumD xs, fun _ => True⟩
  | [x] => (lstOf h x).map fun xs => ⟨enumD xs, fun h => lstOf h x = some xs⟩
  | _ => none
theorem srcE {c : Ct} {w : Wd} {a : Addr} {vs : List V} {xs : List D} (q : ∀ w2 h2 H2, Le0 w w2 → SR c w2 h2 H2 → SqT c.K H2 a vs) (r : VRs c w xs vs) : SrcOk c w ⟨enumD xs, fun _ => True⟩ (Itet c.K a) := by
  refine ⟨fun H => SqT c.K H a vs, fun i H v H' => ∃ T x, v = .ref T ∧ H T = none ∧ H' = upd H T (.tup [.int (i : Nat), x]) ∧ ∀ xs, SqT c.K H a xs → xs[i]? = some x,
    ⟨fun i H hi g => ?_, fun H g => ?_, fun i H x H' hi g y => y⟩, fun w2 h2 H2 l s _ => q w2 h2 H2 l s, fun i v H2 H3 w2 h2 hi l s ck y => ?_⟩
  · rw [enumD_len, r.len] at hi
    exact ⟨vs, vs[i], g, List.getElem?_eq_getElem hi⟩
  · exact ⟨vs, g, by rw [enumD_len, r.len]⟩
  · obtain ⟨T, x, rfl, hn, rfl, y⟩ := y
    obtain ⟨d, e, rd⟩ := r.get' (y _ (q w2 h2 H2 l s))
    obtain ⟨w3, l3, s3, r3⟩ := new_tup (ds := [.int (i : Nat), d]) (vs := [.int (i : Nat), x]) s (.cons (by simp only [VR]) (.one (rd.le0 l))) hn
    exact ⟨w3, _, l3, s3, enumD_at e, r3⟩
theorem srcEL {c : Ct} {w : Wd} {h0 : Hd} {H0 : Hp} {a : Addr} {x : D} {xs : List D} (rx : VR c w x (.ref a)) : SrcOk c w ⟨enumD xs, fun h => lstOf h x = some xs⟩ (Ite c.K a) := by
  refine ⟨fun H => ∃ vs, SqL c.K H a vs ∧ vs.length = xs.length, fun i H v H' => ∃ T x, v = .ref T ∧ H T = none ∧ H' = upd H T (.tup [.int (i : Nat), x]) ∧ ∀ xs, SqL c.K H a xs → xs[i]? = some x,
    ⟨fun i H hi g => ?_, fun H g => ?_, fun i H x H' hi g y => y⟩, fun w2 h2 H2 l s ck => ?_, fun i v H2 H3 w2 h2 hi l s ck y => ?_⟩
  · obtain ⟨vs, q, e⟩ := g
    rw [enumD_len, ← e] at hi
    exact ⟨vs, vs[i], q, List.getElem?_eq_getElem hi⟩
  · obtain ⟨vs, q, e⟩ := g
    exact ⟨vs, q, by rw [enumD_len, e]; exact Nat.le_refl _⟩
  · obtain ⟨a2, vs2, ea2, q2, z2⟩ := lstOf_ok s (rx.le0 l) ck
    cases ea2
    exact ⟨vs2, SqL.of q2, z2.len.symm⟩
  · obtain ⟨a2, vs2, ea2, q2, z2⟩ := lstOf_ok s (rx.le0 l) ck
    cases ea2
    obtain ⟨T, x, rfl, hn, rfl, y⟩ := y
    obtain ⟨d, e, rd⟩ := z2.get' (y _ (SqL.of q2))
    obtain ⟨w3, l3, s3, r3⟩ := new_tup (ds := [.int (i : Nat), d]) (vs := [.int (i : Nat), x]) s (.cons (by simp only [VR]) (.one rd)) hn
    exact ⟨w3, _, l3, s3, enumD_at e, r3⟩
section
variable {X : Cx} {W : WX} {e : Expr} {mas : MA} {p pos tpos : Pos}
theorem i_enum {elts : List Expr} {kk : Nat} (hm : X.mg "enumerate" = none) (ha : SA X W [e] mas) (hg : Gl X "enumerate" := by rfl) (hs : starEach [e] X.env = [(false, eval e X.env)] := by rfl) :
    SI X W (.Tuple elts kk tpos) (.Call (.Name "enumerate" p) [e] [] pos) (mSrc enumF mas) := PI.imp (PI.or (pi_enum hg hm ha hs) (pi_enumT hg hm ha hs)) fun σ H R q => by
  obtain ⟨w, ρ, h, er, sr, pq⟩ := q
  unfold mSrc at pq
  cases e1 : mas ρ h with
  | bad => rw [e1] at pq; exact pq.elim
  | exc x h1 => rw [e1] at pq; exact .inl ⟨w, ρ, h, er, sr, by rw [e1]; exact pq⟩
  | ok ds h1 =>
    rw [e1] at pq
    have pq' : Post (fun w _ s J => SrcOk (Cx.ct X) w s J) (Cx.ct X) w W σ (optR (enumF h1 ds) h1) R := pq
    obtain ⟨src, eo, p2⟩ := optR_post pq'
    match ds, eo with
    | [], eo => cases eo
    | _ :: _ :: _, eo => simp [enumF] at eo
    | [x], eo =>
      have tups : ∀ xs, (∀ v w1, VR (Cx.ct X) w1 x v → ∃ a vs, v = .ref a ∧ VRs (Cx.ct X) w1 xs vs ∧ ∀ w2 h2 H2, Le0 w1 w2 → SR (Cx.ct X) w2 h2 H2 → SqT X.K H2 a vs) → src = ⟨enumD xs, fun _ => True⟩ → (iEnum X.K (tAr (Cx.ct X) W mas) σ H R ∨ iEnumT X.K (tAr (Cx.ct X) W mas) σ H R) := fun xs hx es => by
        subst es
        refine Or.inr (show iEnumT X.K (tAr (Cx.ct X) W mas) σ H R from ⟨w, ρ, h, er, sr, ?_⟩)
        rw [e1]
        intro vs w1 H1 l r s1
        obtain ⟨v, rfl, rv⟩ := r.one_inv
        obtain ⟨a, us, rfl, z, q⟩ := hx v w1 rv
        exact ⟨a, us, rfl, q _ _ _ (.refl _) s1, p2 _ w1 H1 l (srcE q z) s1⟩
      cases x with
      | tup xs =>
        refine tups xs (fun v w1 r => ?_) (Option.some.inj eo).symm
        simp only [VR] at r
        obtain ⟨a, vs, rfl, q, z⟩ := r
        exact ⟨a, vs, rfl, z, fun w2 h2 H2 l s => SqT_le (fun a o q => s.F a o (l.F a o q)) q⟩
      | ktp xs =>
        refine tups xs (fun v w1 r => ?_) (Option.some.inj eo).symm
        simp only [VR] at r
        obtain ⟨a, vs, rfl, q, z⟩ := r
        exact ⟨a, vs, rfl, z, fun w2 h2 H2 l s => q.sq⟩
      | lst ys =>
        have eo' : some (⟨enumD ys, fun h => lstOf h (.lst ys) = some ys⟩ : Src) = some src := eo
        cases eo'
        refine Or.inl (show iEnum X.K (tAr (Cx.ct X) W mas) σ H R from ⟨w, ρ, h, er, sr, ?_⟩)
        rw [e1]
        intro vs w1 H1 l r s1
        obtain ⟨v, rfl, rv⟩ := r.one_inv
        obtain ⟨a, us, rfl, q, z⟩ := lstOf_ok (xs := ys) s1 rv rfl
        exact ⟨a, us, rfl, SqL.of q, p2 _ w1 H1 l (srcEL (h0 := h1) (H0 := H1) rv) s1⟩
      | ref n =>
        have eo' : ((lstOf h1 (.ref n)).map fun xs => (⟨enumD xs, fun h => lstOf h (.ref n) = some xs⟩ : Src)) = some src := eo
        rw [Option.map_eq_some_iff] at eo'
        obtain ⟨ys, ey, rfl⟩ := eo'
        refine Or.inl (show iEnum X.K (tAr (Cx.ct X) W mas) σ H R from ⟨w, ρ, h, er, sr, ?_⟩)
        rw [e1]
        intro vs w1 H1 l r s1
        obtain ⟨v, rfl, rv⟩ := r.one_inv
        obtain ⟨a, us, rfl, q, z⟩ := lstOf_ok (xs := ys) s1 rv ey
        exact ⟨a, us, rfl, SqL.of q, p2 _ w1 H1 l (srcEL (h0 := h1) (H0 := H1) rv) s1⟩
      | _ => simp [enumF, lstOf] at eo
end
/-! ## list(range(a, b)) -/
def mLRg2 (ma mb : ME) : Env → Hd → Res O := fun ρ h => (ma ρ h).bind fun x h => (mb ρ h).bind fun y h => match x, y with
  | .int i, .int j => if 0 ≤ i ∧ i ≤ 16777216 ∧ 0 ≤ j ∧ j ≤ 16777216 then .ok (.new (.lst (rangeD i (j - i).toNat))) h else .bad
  | _, _ => .bad
def mLRg1 (ma : ME) : Env → Hd → Res O := fun ρ h => (ma ρ h).bind fun y h => match y with
  | .int j => if 0 ≤ j ∧ j ≤ 16777216 then .ok (.new (.lst (rangeD 0 j.toNat))) h else .bad
  | _ => .bad
theorem VRs_rg {c : Ct} {w : Wd} (i j : Int) : VRs c w (rangeD i (j - i).toNat) (rgV i j) := by
  unfold rangeD rgV
  generalize List.range (j - i).toNat = l
  induction l with
  | nil => exact .nil
  | cons n l ih => exact .cons (by simp only [VR]) ih
section
variable {X : Cx} {W : WX} {a b : Expr} {ma mb : ME} {p pos p2 pos2 : Pos}
theorem e_lrg2 (hc : X.calm = true) (hl : X.mg "list" = none) (hm : X.mg "range" = none) (ha : SE X W a ma) (hb : SE X W b mb) (hg : Gl X "list" := by rfl) (hg2 : Gl X "range" := by rfl)
    (na : starEach [a, b] X.env = (false, eval a X.env) :: starEach [b] X.env := by rfl) (nb : starEach [b] X.env = (false, eval b X.env) :: starEach [] X.env := by rfl) (hp : (backTo pos2 (starEach [b] X.env)).any (·.1) = false := by rfl)
    (no : starEach [.Call (.Name "range" p2) [a, b] [] pos2] X.env = (false, eval (.Call (.Name "range" p2) [a, b] [] pos2) X.env) :: starEach [] X.env := by rfl) : SO X W (.Call (.Name "list" p) [.Call (.Name "range" p2) [a, b] [] pos2] [] pos) (mLRg2 ma mb) :=
  PE.imp (pe_listRg hc hg hl (prg_2 hg2 hm ha hb na nb hp) no) fun σ H Q q => by
  refine (tP.bind q).mono fun v H1 ⟨w1, ρ, h1, d, e1, s1, r1, p1⟩ => ?_
  refine ⟨w1, ρ, h1, e1, s1, (Post.bind p1).mono fun u H2 ⟨w2, h2, d2, l2, r2, s2, p2⟩ => ?_⟩
  cases d with
  | int i => cases d2 with
    | int j =>
      replace p2 : Post (RO (Cx.ct X)) (Cx.ct X) w2 W σ (if 0 ≤ i ∧ i ≤ 16777216 ∧ 0 ≤ j ∧ j ≤ 16777216 then Res.ok (O.new (Cell.lst (rangeD i (j - i).toNat))) h2 else Res.bad) Q := p2
      split at p2
      · rename_i hz
        simp only [RV, VR] at r1 r2
        subst r1; subst r2
        refine ⟨i, j, rfl, rfl, RgOk.of_le hz.1 hz.2.2.2 hz.2.1 hz.2.2.1, fun q hn => ?_⟩
        obtain ⟨s3, r3⟩ := new_obj (z := .lst (rangeD i (j - i).toNat)) s2 hn (by intro z; cases z) ⟨_, upd_same, VRs_rg i j⟩
        exact p2 _ w2 _ (.refl _) r3 s3
      · exact p2.elim
    | _ => exact p2.elim
  | _ => exact p2.elim
theorem e_lrg1 (hc : X.calm = true) (hl : X.mg "list" = none) (hm : X.mg "range" = none) (ha : SE X W a ma) (hg : Gl X "list" := by rfl) (hg2 : Gl X "range" := by rfl)
    (na : starEach [a] X.env = (false, eval a X.env) :: starEach [] X.env := by rfl)
    (no : starEach [.Call (.Name "range" p2) [a] [] pos2] X.env = (false, eval (.Call (.Name "range" p2) [a] [] pos2) X.env) :: starEach [] X.env := by rfl) : SO X W (.Call (.Name "list" p) [.Call (.Name "range" p2) [a] [] pos2] [] pos) (mLRg1 ma) :=
  PE.imp (pe_listRg hc hg hl (prg_1 hg2 hm ha na) no) fun σ H Q q => by
  refine (tP.bind q).mono fun v H1 ⟨w1, ρ, h1, d, e1, s1, r1, p1⟩ => ?_
  cases d with
  | int j =>
    replace p1 : Post (RO (Cx.ct X)) (Cx.ct X) w1 W σ (if 0 ≤ j ∧ j ≤ 16777216 then Res.ok (O.new (Cell.lst (rangeD 0 j.toNat))) h1 else Res.bad) Q := p1
    split at p1
    · rename_i hz
      simp only [RV, VR] at r1
      subst r1
      refine ⟨j, rfl, RgOk.of_le (by decide) hz.2 (by decide) hz.1, fun q hn => ?_⟩
      have z := VRs_rg (c := Cx.ct X) (w := w1) 0 j
      rw [Int.sub_zero] at z
      obtain ⟨s3, r3⟩ := new_obj (z := .lst (rangeD 0 j.toNat)) s1 hn (by intro z; cases z) ⟨_, upd_same, z⟩
      exact p1 _ w1 _ (.refl _) r3 s3
    · exact p1.elim
  | _ => exact p1.elim
end
end DD
set_option Elab.async false
set_option linter.all false
set_option maxRecDepth 100000
set_option maxHeartbeats 4000000
namespace DD
open PySem PySem.Spec L2 RZ
/-! ## repr, str of frozen data, dicts among it -/
mutual
def isPyX : D → Bool
  | .non => true
  | .bl _ => true
  | .int _ => true
  | .str _ => true
  | .tup xs => isPyXs xs
  | .ktp xs => isPyXs xs
  | .lst xs => isPyXs xs
  | .dct _ us => isPyXs us
  | _ => false
def isPyXs : List D → Bool
  | [] => true
  | d :: ds => isPyX d && isPyXs ds
end
def keyP : D → PyData
  | .int i => .int i
  | .str s => .str s
  | _ => .none
mutual
def pyX : D → PyData
  | .non => .none
  | .bl b => .bool b
  | .int i => .int i
  | .str s => .str s
  | .tup xs => .tuple (pyXs xs)
  | .ktp xs => .tuple (pyXs xs)
  | .lst xs => .list (pyXs xs)
  | .dct ks us => .dict (pyXk ks us)
  | _ => .none
def pyXs : List D → List PyData
  | [] => []
  | d :: ds => pyX d :: pyXs ds
def pyXk : List D → List D → List (PyData × PyData)
  | ks, u :: us => match ks with
    | k :: ks => (keyP k, pyX u) :: pyXk ks us
    | [] => []
  | _, [] => []
end
@[simp] theorem pyXs_nil : pyXs [] = [] := by simp only [pyXs]
@[simp] theorem pyXs_cons (d : D) (ds : List D) : pyXs (d :: ds) = pyX d :: pyXs ds := by simp only [pyXs]
theorem pyXk_cons (k u : D) (ks us : List D) : pyXk (k :: ks) (u :: us) = (keyP k, pyX u) :: pyXk ks us := by simp only [pyXk]
/-- what the repr of a value is -/
def RpX (P : Program) (w : World) (h : Heap) (u : Value) (p : PyData) : Prop := (∃ as, Reads h u p as) ∧ ∃ bs, ReadAtMost h p.depth bs ∧ ReprK P w bs h p.depth u p.shown
def RpsX (P : Program) (w : World) (h : Heap) (us : List Value) (ps : List PyData) : Prop := (∃ as, ReadsAll h us ps as) ∧ ∃ bs, ReadAtMost h (PyData.depthAll ps) bs ∧ ReprAllK P w bs h (PyData.depthAll ps) us (PyData.shownAll ps)
theorem RpsX.nil {P : Program} {w : World} {h : Heap} : RpsX P w h [] [] := ⟨⟨_, .nil⟩, [], (fun _ h => nomatch h), by simp only [PyData.shownAll]; exact .nil⟩
theorem RpsX.cons {P : Program} {w : World} {h : Heap} {u : Value} {us : List Value} {p : PyData} {ps : List PyData} (a : RpX P w h u p) (b : RpsX P w h us ps) : RpsX P w h (u :: us) (p :: ps) := by
  obtain ⟨⟨as, r1⟩, b1, q1, k1⟩ := a
  obtain ⟨⟨cs, r2⟩, b2, q2, k2⟩ := b
  refine ⟨⟨_, .cons r1 r2⟩, b1 ++ b2, ?_, ?_⟩
  · simp only [PyData.depthAll]
    exact (q1.mono (Nat.le_max_left _ _)).append (q2.mono (Nat.le_max_right _ _))
  · simp only [PyData.depthAll, PyData.shownAll]
    exact .cons ((k1.more fun b hb => List.mem_append_left _ hb).level_le (Nat.le_max_left _ _)) (k2.more_le (fun b hb => List.mem_append_right _ hb) (Nat.le_max_right _ _))
/-- a thing's own repr, and what stands ahead of it -/
theorem RpX.of_shows {P : Program} {w : World} {h : Heap} {a : Addr} {p : PyData} {as bs : List Addr} {n : Nat} (r : Reads h (.ref a) p as) (hd : p.depth = n + 1) (hb : ReadAtMost h n bs) (k : a ∉ bs → ReprK P w (a :: bs) h (n + 1) (.ref a) p.shown) : RpX P w h (.ref a) p := by
  have hna : a ∉ bs := not_mem_of_deeper r (by omega) hb
  refine ⟨⟨_, r⟩, a :: bs, .cons r (by omega) hb, ?_⟩
  rw [hd]; exact k hna
section
variable {P : Program} {w : World} {h : Heap} {a : Addr}
theorem rp_tup {o : Obj} {its : Array Value} {n : Nat} {ps : List PyData} (h1 : h.get? a = some o) (h2 : o.cls = .type "tuple") (h3 : o.data = .seq its n) (b : RpsX P w h its.toList ps) : RpX P w h (.ref a) (.tuple ps) := by
  obtain ⟨⟨as, r⟩, bs, q, k⟩ := b
  exact .of_shows (.tuple h1 h2 h3 r) (by simp only [PyData.depth]) q fun hna => by simp only [PyData.shown]; exact ReprK.tuple h1 h2 h3 hna k
theorem rp_lst {o : Obj} {its : Array Value} {n : Nat} {ps : List PyData} (h1 : h.get? a = some o) (h2 : o.cls = .type "list") (h3 : o.data = .seq its n) (b : RpsX P w h its.toList ps) : RpX P w h (.ref a) (.list ps) := by
  obtain ⟨⟨as, r⟩, bs, q, k⟩ := b
  refine .of_shows (.list h1 h2 h3 r) (by simp only [PyData.depth]) q fun hna => ?_
  simp only [PyData.shown]
  obtain ⟨l⟩ := its
  cases l with
  | nil =>
    have r' : ReadsAll h [] ps as := r
    cases r'
    simp only [PyData.shownAll, listText_nil]
    have := ReprK.listEmpty (prog := P) (w := w) (as := bs) (d := PyData.depthAll [] + 1) h1 h2 h3
    exact this.more fun b hb => List.mem_cons_of_mem _ hb
  | cons x l => exact ReprK.list h1 h2 h3 hna (by simpa using k.length_eq) (fun i y e => k.item i y (by simpa using e))
theorem rp_dct {o : Obj} {es : Array DictEntry} {n : Nat} {kvs : List (PyData × PyData)} (h1 : h.get? a = some o) (h2 : o.cls = .type "dict") (h3 : o.data = .dict es n) (hs : (a == sysModules) = false)
    (b1 : RpsX P w h (es.toList.map (·.key)) (kvs.map (·.1))) (b2 : RpsX P w h (es.toList.map (·.val)) (kvs.map (·.2))) : RpX P w h (.ref a) (.dict kvs) := by
  obtain ⟨⟨as, r1⟩, bs, q1, k1⟩ := b1
  obtain ⟨⟨cs, r2⟩, ds, q2, k2⟩ := b2
  refine .of_shows (n := PyData.depthKv kvs) (.dict h1 h2 h3 r1 r2) (by simp only [PyData.depth]) ((q1.mono (PyData.depthAll_keys_le kvs)).append (q2.mono (PyData.depthAll_vals_le kvs))) fun hna => ?_
  simp only [PyData.shown, PyData.shownKv_eq]
  exact ReprK.dict h1 h2 h3 hs hna (ReprEntriesK.of_two es.toList _ _ (k1.more_le (fun b hb => List.mem_append_left _ hb) (PyData.depthAll_keys_le kvs)) (k2.more_le (fun b hb => List.mem_append_right _ hb) (PyData.depthAll_vals_le kvs)))
end
theorem rp_none {P : Program} {w : World} {h : Heap} : RpX P w h .none .none := ⟨⟨_, .none⟩, [], (fun _ h => nomatch h), by simp only [PyData.shown]; exact .of_is ReprIs.none _ _ _⟩
theorem rp_bool {P : Program} {w : World} {h : Heap} (b : Bool) : RpX P w h (.bool b) (.bool b) := ⟨⟨_, .bool b⟩, [], (fun _ h => nomatch h), by simp only [PyData.shown]; exact .of_is (ReprIs.bool b) _ _ _⟩
theorem rp_int {P : Program} {w : World} {h : Heap} (i : Int) (t : Tok) (hs : (PyData.int i).showable = true) : RpX P w h (.int i t) (.int i) := ⟨⟨_, .int i t⟩, [], (fun _ h => nomatch h), by simp only [PyData.shown]; exact .of_is (ReprIs.int t (by simpa [PyData.showable] using hs)) _ _ _⟩
theorem rp_str {P : Program} {w : World} {h : Heap} (x : Str) (t : Tok) (hz : (PyData.str x).shown.length ≤ sizeLine) : RpX P w h (.str x t) (.str x) := ⟨⟨_, .str x t⟩, [], (fun _ h => nomatch h), by simp only [PyData.shown]; exact .of_is (ReprIs.str x t (by simpa only [PyData.shown] using hz)) _ _ _⟩
/-- what a repr asks of data -/
def Fits (p : PyData) : Prop := p.showable = true ∧ p.leavesShort 13 = true ∧ p.bulk ≤ 2 ^ 20
def FitsA (ps : List PyData) : Prop := PyData.showableAll ps = true ∧ PyData.leavesShortAll 13 ps = true ∧ PyData.bulkAll ps ≤ 2 ^ 20
theorem Fits.z {p : PyData} (f : Fits p) : p.shown.length ≤ sizeLine := PyData.shown_fits_bulk (by decide) (by decide) f.2.1 f.2.2
theorem FitsA.cons {p : PyData} {ps : List PyData} (f : FitsA (p :: ps)) : Fits p ∧ FitsA ps := by
  obtain ⟨a, b, c⟩ := f
  simp only [PyData.showableAll, PyData.leavesShortAll, PyData.bulkAll, Bool.and_eq_true] at a b c
  exact ⟨⟨a.1, b.1, by omega⟩, a.2, b.2, by omega⟩
theorem Fits.list {ps : List PyData} (f : Fits (.list ps)) : FitsA ps := by
  obtain ⟨a, b, c⟩ := f
  simp only [PyData.showable, PyData.leavesShort, PyData.bulk] at a b c
  exact ⟨a, b, c⟩
theorem Fits.tuple {ps : List PyData} (f : Fits (.tuple ps)) : FitsA ps := by
  obtain ⟨a, b, c⟩ := f
  simp only [PyData.showable, PyData.leavesShort, PyData.bulk] at a b c
  exact ⟨a, b, c⟩
theorem Fits.dict : ∀ {kvs : List (PyData × PyData)}, Fits (.dict kvs) → FitsA (kvs.map (·.1)) ∧ FitsA (kvs.map (·.2))
  | [], _ => ⟨⟨rfl, rfl, by simp [PyData.bulkAll]⟩, rfl, rfl, by simp [PyData.bulkAll]⟩
  | (k, v) :: r, f => by
    obtain ⟨a, b, c⟩ := f
    simp only [PyData.showable, PyData.leavesShort, PyData.bulk, PyData.showableKv, PyData.leavesShortKv, PyData.bulkKv, Bool.and_eq_true] at a b c
    obtain ⟨⟨a1, b1, c1⟩, a2, b2, c2⟩ := Fits.dict (kvs := r) ⟨by simpa only [PyData.showable] using a.2, by simpa only [PyData.leavesShort] using b.2, by simp only [PyData.bulk]; omega⟩
    have e1 : PyData.bulkAll (r.map (·.1)) + PyData.bulkAll (r.map (·.2)) ≤ PyData.bulkKv r := bulk_le r
    refine ⟨⟨?_, ?_, ?_⟩, ?_, ?_, ?_⟩
    · simp only [List.map_cons, PyData.showableAll, Bool.and_eq_true]; exact ⟨a.1.1, a1⟩
    · simp only [List.map_cons, PyData.leavesShortAll, Bool.and_eq_true]; exact ⟨b.1.1, b1⟩
    · simp only [List.map_cons, PyData.bulkAll]; omega
    · simp only [List.map_cons, PyData.showableAll, Bool.and_eq_true]; exact ⟨a.1.2, a2⟩
    · simp only [List.map_cons, PyData.leavesShortAll, Bool.and_eq_true]; exact ⟨b.1.2, b2⟩
    · simp only [List.map_cons, PyData.bulkAll]; omega
where
  bulk_le : ∀ r : List (PyData × PyData), PyData.bulkAll (r.map (·.1)) + PyData.bulkAll (r.map (·.2)) ≤ PyData.bulkKv r
    | [] => by simp [PyData.bulkAll, PyData.bulkKv]
    | (a, b) :: r => by
      have := bulk_le r
      simp only [List.map_cons, PyData.bulkAll, PyData.bulkKv]
      omega
section
variable {X : Cx} {pins : List (Addr × Obj)} {σ : L2.St} {H : Hp} {s : Shared} {w : Wd} {h : Hd} {P' : Program} {w' : World}
theorem rp_keys : ∀ {ks : List D} {us : List D} {kvs : List (Key × V)} {vs : List (Key × Value)} {es : List DictEntry}, ks.map keyD = kvs.map (fun p => some p.1) → us.length = kvs.length → KV kvs vs → Pairs (mixKind X.prog X.w) es vs → FitsA ((pyXk ks us).map (·.1)) → RpsX P' w' s.heap (es.map (·.key)) ((pyXk ks us).map (·.1))
  | [], [], [], _, _, _, _, kv, pr, _ => by
    cases kv; cases pr
    simp only [pyXk, List.map_nil]; exact .nil
  | [], _, _ :: _, _, _, e, _, _, _, _ => by simp at e
  | _ :: _, _, [], _, _, e, _, _, _, _ => by simp at e
  | _, [], _ :: _, _, _, _, e, _, _, _ => by simp at e
  | [], _ :: _, [], _, _, _, e, _, _, _ => by simp at e
  | k :: ks, u :: us, p :: kvs, _, _, e, el, kv, pr, f => by
    cases kv with
    | cons a kv =>
      cases pr with
      | cons b1 b2 pr =>
        simp only [List.map_cons, List.cons.injEq] at e
        rw [pyXk_cons, List.map_cons] at f ⊢
        obtain ⟨f1, f2⟩ := f.cons
        refine .cons ?_ (rp_keys e.2 (by simpa using el) kv pr f2)
        rw [← a.1] at b1
        rcases keyIs_shape b1 with ⟨i, t, ei, ek⟩ | ⟨x, t, ei, ek⟩
        · rw [ek]
          have e1 : keyD k = some (Sum.inl i) := by rw [e.1, ei]
          have e2 : k = .int i := by cases k <;> simp [keyD] at e1; rw [e1]
          subst e2
          exact rp_int i t f1.1
        · rw [ek]
          have e1 : keyD k = some (Sum.inr x) := by rw [e.1, ei]
          have e2 : k = .str x := by cases k <;> simp [keyD] at e1; rw [e1]
          subst e2
          exact rp_str x t f1.z
theorem pyXk_vals : ∀ {ks us : List D}, ks.length = us.length → (pyXk ks us).map (·.2) = pyXs us
  | [], [], _ => by simp [pyXk]
  | [], _ :: _, e => by simp at e
  | _ :: _, [], e => by simp at e
  | k :: ks, u :: us, e => by rw [pyXk_cons, List.map_cons, pyXk_vals (by simpa using e), pyXs_cons]
theorem kv_vals : ∀ {kvs : List (Key × V)} {vs : List (Key × Value)} {es : List DictEntry}, KV kvs vs → Pairs (mixKind X.prog X.w) es vs → Vals (kvs.map (·.2)) (es.map (·.val))
  | [], _, _, kv, pr => by cases kv; cases pr; exact .nil
  | p :: kvs, _, _, kv, pr => by
    cases kv with
    | cons a kv =>
      cases pr with
      | cons b1 b2 pr =>
        have z : RelV p.2 _ := a.2
        rw [← b2] at z
        exact .cons z (kv_vals kv pr)
mutual
theorem rp_of (I : Inv X pins σ H s) (sr : SR (Cx.ct X) w h H) : ∀ (d : D) {v : V} {u : Value}, VR (Cx.ct X) w d v → RelV v u → isPyX d = true → Fits (pyX d) → RpX P' w' s.heap u (pyX d)
  | .non, v, u, r, ru, _, _ => by simp only [VR] at r; subst r; cases ru; simp only [pyX]; exact rp_none
  | .bl b, v, u, r, ru, _, _ => by simp only [VR] at r; subst r; cases ru; simp only [pyX]; exact rp_bool b
  | .int i, v, u, r, ru, _, f => by simp only [VR] at r; subst r; obtain ⟨t, rfl⟩ := ru; simp only [pyX] at f ⊢; exact rp_int i t f.1
  | .str x, v, u, r, ru, _, f => by simp only [VR] at r; subst r; obtain ⟨t, rfl⟩ := ru; simp only [pyX] at f ⊢; exact rp_str x t f.z
  | .tup xs, v, u, r, ru, ip, f => by
    simp only [VR] at r
    obtain ⟨a, vs, rfl, q, z⟩ := r
    obtain rfl : u = Value.ref a := ru
    obtain ⟨its, rv, ⟨o, ho, hc, n, hd⟩, _⟩ := I.tuple (SqT_le sr.F q)
    simp only [pyX, isPyX] at f ip ⊢
    exact rp_tup ho hc hd (by simpa using rps_of I sr xs z rv ip f.tuple)
  | .ktp xs, v, u, r, ru, ip, f => by
    simp only [VR] at r
    obtain ⟨a, vs, rfl, q, z⟩ := r
    obtain rfl : u = Value.ref a := ru
    obtain ⟨its, rv, ⟨o, ho, hc, n, hd⟩, _⟩ := I.tuple q.sq
    simp only [pyX, isPyX] at f ip ⊢
    exact rp_tup ho hc hd (by simpa using rps_of I sr xs z rv ip f.tuple)
  | .lst xs, v, u, r, ru, ip, f => by
    simp only [VR] at r
    obtain ⟨a, vs, rfl, q, z⟩ := r
    obtain rfl : u = Value.ref a := ru
    obtain ⟨its, rv, ⟨o, n, ho, hc, _, hd⟩, _⟩ := I.list (SqL.of (sr.F _ _ q))
    simp only [pyX, isPyX] at f ip ⊢
    exact rp_lst ho hc hd (by simpa using rps_of I sr xs z rv ip f.list)
  | .dct ks us, v, u, r, ru, ip, f => by
    simp only [VR] at r
    obtain ⟨a, od, kvs, rfl, q, kq, z⟩ := r
    obtain rfl : u = Value.ref a := ru
    obtain ⟨_, hs, vs, kv, dd⟩ := dk_rd I.hok (Or.inr ⟨od, sr.F _ _ q⟩ : Rd H a (.dK kvs))
    obtain ⟨o, es, ep, ho, hx, hdt, _, pr, _⟩ := dd
    have el : kvs.length = ks.length := by simpa using (congrArg List.length kq).symm
    have ul : us.length = kvs.length := by rw [z.len, List.length_map]
    simp only [pyX, isPyX] at f ip ⊢
    obtain ⟨f1, f2⟩ := f.dict
    have e2 : (pyXk ks us).map (·.2) = pyXs us := pyXk_vals (by rw [ul, el])
    rw [e2] at f2
    refine rp_dct ho hx.1 hdt hs (rp_keys kq ul kv pr f1) ?_
    rw [e2]
    exact rps_of I sr us z (kv_vals kv pr) ip f2
  | .rol _, _, _, _, _, ip, _ => by simp [isPyX] at ip
  | .ref _, _, _, _, _, ip, _ => by simp [isPyX] at ip
  | .glb _, _, _, _, _, ip, _ => by simp [isPyX] at ip
  | .ty _, _, _, _, _, ip, _ => by simp [isPyX] at ip
  | .dtt _ _, _, _, _, _, ip, _ => by simp [isPyX] at ip
  | .ins _ _ _, _, _, _, _, ip, _ => by simp [isPyX] at ip
theorem rps_of (I : Inv X pins σ H s) (sr : SR (Cx.ct X) w h H) : ∀ (ds : List D) {vs : List V} {us : List Value}, VRs (Cx.ct X) w ds vs → Vals vs us → isPyXs ds = true → FitsA (pyXs ds) → RpsX P' w' s.heap us (pyXs ds)
  | [], vs, us, r, ru, _, _ => by
    simp only [VRs] at r; subst r; cases ru
    rw [pyXs_nil]; exact .nil
  | d :: ds, vs, us, r, ru, ip, f => by
    simp only [VRs] at r
    obtain ⟨v, vs, rfl, r1, r2⟩ := r
    cases ru with
    | cons u1 u2 =>
      rw [pyXs_cons] at f ⊢
      obtain ⟨f1, f2⟩ := f.cons
      simp only [isPyXs, Bool.and_eq_true] at ip
      exact .cons (rp_of I sr d r1 u1 ip.1 f1) (rps_of I sr ds r2 u2 ip.2 f2)
end
end
end DD
set_option Elab.async false
set_option linter.all false
set_option maxRecDepth 100000
set_option maxHeartbeats 4000000
namespace DD
open PySem PySem.Spec L2 RZ
/-! ## repr(x), str(x), x a frozen tuple, list, dict -/
def ShX (P : Program) (w : World) (h : Heap) (a : Addr) (p : PyData) : Prop := ∃ T idr, ShowsBy P w h a p T idr
section
variable {P : Program} {w : World} {h : Heap} {a : Addr}
theorem sh_tup {o : Obj} {its : Array Value} {n : Nat} {ps : List PyData} (h1 : h.get? a = some o) (h2 : o.cls = .type "tuple") (h3 : o.data = .seq its n) (hz : (PyData.tuple ps).shown.length ≤ sizeLine) (b : RpsX P w h its.toList ps) : ShX P w h a (.tuple ps) := by
  obtain ⟨⟨as, r⟩, bs, q, k⟩ := b
  have hna : a ∉ bs := not_mem_of_deeper (.tuple h1 h2 h3 r) (by simp only [PyData.depth]; omega) q
  have hz' : (tupleText (PyData.shownAll ps)).length ≤ sizeLine := by simpa only [PyData.shown] using hz
  refine ⟨"tuple", "tuple.__repr__", F.slot_tuple_repr, F.slot_tuple_str, F.slot_tuple_format, fun s hk0 => ⟨o, hk0 _ _ h1, h2⟩, fun A E s Q hg hu hk0 hQ => ?_⟩
  simp only [PyData.depth] at hu
  simp only [PyData.shown] at hQ
  exact call_tuple_reprK h1 h2 h3 hna k hg (fun b _ => Clear.nil b) hu hk0 hQ hz'
theorem sh_lst {o : Obj} {its : Array Value} {n : Nat} {ps : List PyData} (h1 : h.get? a = some o) (h2 : o.cls = .type "list") (h3 : o.data = .seq its n) (hz : (PyData.list ps).shown.length ≤ sizeLine) (b : RpsX P w h its.toList ps) : ShX P w h a (.list ps) := by
  obtain ⟨⟨as, r⟩, bs, q, k⟩ := b
  have hna : a ∉ bs := not_mem_of_deeper (.list h1 h2 h3 r) (by simp only [PyData.depth]; omega) q
  have hz' : (listText (PyData.shownAll ps)).length ≤ sizeLine := by simpa only [PyData.shown] using hz
  refine ⟨"list", "list.__repr__", F.slot_list_repr.toG, F.slot_list_str, F.slot_list_format, fun s hk0 => ⟨o, hk0 _ _ h1, h2⟩, fun A E s Q hg hu hk0 hQ => ?_⟩
  simp only [PyData.depth] at hu
  simp only [PyData.shown] at hQ
  obtain ⟨l⟩ := its
  cases l with
  | nil =>
    have r' : ReadsAll h [] ps as := r
    cases r'
    simp only [PyData.shownAll, listText_nil] at hQ
    exact call_list_repr_empty ⟨o, hk0 _ _ h1, h2⟩ (hk0 _ _ h1) h3 (hQ s.heap _ _ fun _ _ e => e)
  | cons x l => exact call_list_reprK h1 h2 h3 hna (by simpa using k.length_eq) (fun i y e => k.item i y (by simpa using e)) hg (fun b _ => Clear.nil b) hu hk0 hQ hz'
theorem sh_dct {o : Obj} {es : Array DictEntry} {n : Nat} {kvs : List (PyData × PyData)} (h1 : h.get? a = some o) (h2 : o.cls = .type "dict") (h3 : o.data = .dict es n) (hs : (a == sysModules) = false) (hz : (PyData.dict kvs).shown.length ≤ sizeLine)
    (b1 : RpsX P w h (es.toList.map (·.key)) (kvs.map (·.1))) (b2 : RpsX P w h (es.toList.map (·.val)) (kvs.map (·.2))) : ShX P w h a (.dict kvs) := by
  obtain ⟨⟨as, r1⟩, bs, q1, k1⟩ := b1
  obtain ⟨⟨cs, r2⟩, ds, q2, k2⟩ := b2
  have hb : ReadAtMost h (PyData.depthKv kvs) (bs ++ ds) := (q1.mono (PyData.depthAll_keys_le kvs)).append (q2.mono (PyData.depthAll_vals_le kvs))
  have hna : a ∉ bs ++ ds := not_mem_of_deeper (.dict h1 h2 h3 r1 r2) (by simp only [PyData.depth]; omega) hb
  have hz' : (dictText (PyData.shownKv kvs)).length ≤ sizeLine := by simpa only [PyData.shown] using hz
  refine ⟨"dict", "dict.__repr__", F.slot_dict_repr, F.slot_dict_str, F.slot_dict_format, fun s hk0 => ⟨o, hk0 _ _ h1, h2⟩, fun A E s Q hg hu hk0 hQ => ?_⟩
  simp only [PyData.depth] at hu
  simp only [PyData.shown, PyData.shownKv_eq] at hQ
  exact call_dict_reprK h1 h2 h3 hs hna (ReprEntriesK.of_two es.toList _ _ (k1.more_le (fun b hb => List.mem_append_left _ hb) (PyData.depthAll_keys_le kvs)) (k2.more_le (fun b hb => List.mem_append_right _ hb) (PyData.depthAll_vals_le kvs))) hg (fun b _ => Clear.nil b) hu hk0 hQ (by rw [← PyData.shownKv_eq]; exact hz')
end
def isBox : D → Bool
  | .tup _ => true
  | .ktp _ => true
  | .lst _ => true
  | .dct _ _ => true
  | _ => false
theorem sh_of {X : Cx} {pins : List (Addr × Obj)} {σ : L2.St} {H : Hp} {s : Shared} {w : Wd} {h : Hd} (I : Inv X pins σ H s) (sr : SR (Cx.ct X) w h H) {d : D} {v : V} {u : Value} (r : VR (Cx.ct X) w d v) (ru : RelV v u) (b : isBox d = true) (ip : isPyX d = true) (f : Fits (pyX d)) :
    ∃ a, u = .ref a ∧ ∀ P' w', ShX P' w' s.heap a (pyX d) := by
  have hz := f.z
  cases d with
  | tup xs =>
    simp only [VR] at r
    obtain ⟨a, vs, rfl, q, z⟩ := r
    obtain rfl : u = Value.ref a := ru
    obtain ⟨its, rv, ⟨o, ho, hc, n, hd⟩, _⟩ := I.tuple (SqT_le sr.F q)
    simp only [pyX, isPyX] at f ip hz ⊢
    exact ⟨a, rfl, fun _ _ => sh_tup ho hc hd hz (by simpa using rps_of I sr xs z rv ip f.tuple)⟩
  | ktp xs =>
    simp only [VR] at r
    obtain ⟨a, vs, rfl, q, z⟩ := r
    obtain rfl : u = Value.ref a := ru
    obtain ⟨its, rv, ⟨o, ho, hc, n, hd⟩, _⟩ := I.tuple q.sq
    simp only [pyX, isPyX] at f ip hz ⊢
    exact ⟨a, rfl, fun _ _ => sh_tup ho hc hd hz (by simpa using rps_of I sr xs z rv ip f.tuple)⟩
  | lst xs =>
    simp only [VR] at r
    obtain ⟨a, vs, rfl, q, z⟩ := r
    obtain rfl : u = Value.ref a := ru
    obtain ⟨its, rv, ⟨o, n, ho, hc, _, hd⟩, _⟩ := I.list (SqL.of (sr.F _ _ q))
    simp only [pyX, isPyX] at f ip hz ⊢
    exact ⟨a, rfl, fun _ _ => sh_lst ho hc hd hz (by simpa using rps_of I sr xs z rv ip f.list)⟩
  | dct ks us =>
    simp only [VR] at r
    obtain ⟨a, od, kvs, rfl, q, kq, z⟩ := r
    obtain rfl : u = Value.ref a := ru
    obtain ⟨_, hs, vs, kv, dd⟩ := dk_rd I.hok (Or.inr ⟨od, sr.F _ _ q⟩ : Rd H a (.dK kvs))
    obtain ⟨o, es, ep, ho, hx, hdt, _, pr, _⟩ := dd
    have el : kvs.length = ks.length := by simpa using (congrArg List.length kq).symm
    have ul : us.length = kvs.length := by rw [z.len, List.length_map]
    simp only [pyX, isPyX] at f ip hz ⊢
    obtain ⟨f1, f2⟩ := f.dict
    have e2 : (pyXk ks us).map (·.2) = pyXs us := pyXk_vals (by rw [ul, el])
    rw [e2] at f2
    refine ⟨a, rfl, fun _ _ => sh_dct ho hx.1 hdt hs hz (rp_keys kq ul kv pr f1) ?_⟩
    rw [e2]
    exact rps_of I sr us z (kv_vals kv pr) ip f2
  | _ => cases b
open Classical in
noncomputable def reprF : List D → Hd → Res O
  | [d], h => if isBox d = true ∧ isPyX d = true ∧ Fits (pyX d) ∧ (pyX d).depth ≤ 60 then .ok (.val (.str (pyX d).shown)) h else .bad
  | _, _ => .bad
def rRepr (X : Cx) : List V → Hp → VK → Prop := fun xs H Q => ∃ (v : V) (p : PyData), xs = [v] ∧ p.depth ≤ 60 ∧ (∀ (pins : List (Addr × Obj)) (σ : L2.St) (s : Shared) (u : Value), Inv X pins σ H s → RelV v u → ∃ a, u = .ref a ∧ ∀ P' w', ShX P' w' s.heap a p) ∧ Q (.str p.shown) H
theorem cr_repr {X : Cx} {k : Nat} (hr : RoomG k X.A) : CallR X (.builtin "repr") (rRepr X) := by
  intro pins s σ H xs us Q I r h
  obtain ⟨v, p, rfl, hd, sh, q⟩ := h
  obtain ⟨u, rfl, ru⟩ := vals1 r
  obtain ⟨a, rfl, sh'⟩ := sh pins σ s u I ru
  obtain ⟨T, idr, S⟩ := sh' X.prog X.w
  have hu := hr.r.un
  exact call_repr_slot (by omega) (S.typeIs s fun _ _ e => e) S.slotRepr (S.call X.A.in1 _ s _ hr.g (by show X.A.units + 1 + p.depth < cLine; omega) (fun _ _ e => e) fun h' u tk hk => ⟨_, _, rfl, .str p.shown, H, I.kept hk, ⟨u, rfl⟩, q⟩)
theorem cr_strX {X : Cx} {k : Nat} (hr : RoomG k X.A) : CallR X (.type "str") (rRepr X) := by
  intro pins s σ H xs us Q I r h
  obtain ⟨v, p, rfl, hd, sh, q⟩ := h
  obtain ⟨u, rfl, ru⟩ := vals1 r
  obtain ⟨a, rfl, sh'⟩ := sh pins σ s u I ru
  have hu := hr.r.un
  have inner : ∀ {P' : Program} {w' : World} {A : Around} {E : Value → Shared → Prop} {s' : Shared} {Q : Value → Shared → Prop}, A.guards = some [] → A.units + (p.depth + 1) < cLine → (∀ b o, s.heap.get? b = some o → s'.heap.get? b = some o) →
      (∀ h' u tk, (∀ b o, s'.heap.get? b = some o → h'.get? b = some o) → Q (.str p.shown u) { s' with heap := h', toks := tk }) → wpAny (model P' w') A (Builtin.Str.strOf (.ref a)) Q E s' := fun {P' w' A E s' Q} hg hu hk0 hQ => by
    obtain ⟨T, idr, S⟩ := sh' P' w'
    exact wpAny_strOf_slot rfl (by omega) (S.typeIs s' hk0) S.slotStr S.slotRepr (S.call A.in1 E s' _ hg (by show A.units + 1 + p.depth < cLine; omega) hk0 fun h' u tk hk => ⟨_, _, rfl, hQ h' u tk hk⟩)
  exact callType_new F.called_str (by decide) (F.typeCall_str_1 _) (F.newCall_str_1 _) (fun obj => F.args_object_init_2 obj _) F.entry_str_new
    (meets_str_new (S := fun A' R s' => A'.guards = some [] ∧ A'.units + (p.depth + 2) < cLine ∧ (∀ b o, s.heap.get? b = some o → s'.heap.get? b = some o) ∧
        ∀ h' u tk, (∀ b o, s'.heap.get? b = some o → h'.get? b = some o) → R (.ok (.ret (.str p.shown u))) { s' with heap := h', toks := tk })
      fun P' w' A' R s' h => inner (A := A'.in1) h.1 (by show A'.units + 1 + (p.depth + 1) < cLine; have := h.2.1; omega) h.2.2.1 h.2.2.2)
    ⟨hr.g, by show X.A.units + 1 + (p.depth + 2) < cLine; omega, fun _ _ e => e, fun h' u tk hk => ⟨typeIs_str _ _ _, .str p.shown, H, I.kept hk, ⟨u, rfl⟩, q⟩⟩
theorem s_repr {X : Cx} : CallS (Cx.ct X) (rRepr X) reprF := fun {w W σ h H vs ds Q} s r p => by
  unfold reprF at p
  split at p
  · rename_i d
    split at p
    · rename_i hc
      obtain ⟨v, rfl, rv⟩ := r.one_inv
      exact ⟨v, pyX d, rfl, hc.2.2.2, fun pins σ s' u I ru => sh_of I s rv ru hc.1 hc.2.1 hc.2.2.1, p.ret (by simp only [RO, VR]) s⟩
    · exact p.elim
  · exact p.elim
end DD
set_option Elab.async false
set_option linter.all false
set_option maxRecDepth 100000
set_option maxHeartbeats 4000000
namespace DD
open PySem PySem.Spec L2 RZ
/-! ## x[y], x a list, a tuple, a text, a dict -/
def ixDF (h : Hd) (x y : D) : Option D := match dgetF h x y with
  | some o => o
  | none => ixF h x y
def mIxD (ma mb : ME) : ME := fun ρ h => (ma ρ h).bind fun x h => (mb ρ h).bind fun y h => optR (ixDF h x y) h
theorem PE.or {X : Cx} {e : Expr} {t u : TE} (a : PE X e t) (b : PE X e u) : PE X e (fun σ H Q => t σ H Q ∨ u σ H Q) := ⟨fun pins s σ H Q I h => h.elim (fun h => a.run pins s σ H Q I h) (fun h => b.run pins s σ H Q I h)⟩
theorem mIxD_or (ma mb : ME) (ρ : Env) (h : Hd) : mIxD ma mb ρ h = mIx ma mb ρ h ∨ mIxD ma mb ρ h = mDIx ma mb ρ h := by
  unfold mIxD mIx mDIx
  cases e1 : ma ρ h with
  | bad => exact .inl rfl
  | exc x h1 => exact .inl rfl
  | ok x h1 =>
    show (mb ρ h1).bind _ = (mb ρ h1).bind _ ∨ (mb ρ h1).bind _ = (mb ρ h1).bind _
    cases e2 : mb ρ h1 with
    | bad => exact .inl rfl
    | exc y h2 => exact .inl rfl
    | ok y h2 =>
      show optR (ixDF h2 x y) h2 = optR (ixF h2 x y) h2 ∨ optR (ixDF h2 x y) h2 = optR ((dgetF h2 x y).bind id) h2
      unfold ixDF
      cases e3 : dgetF h2 x y with
      | none => exact .inl rfl
      | some o => exact .inr rfl
section
variable {X : Cx} {W : WX} {a b : Expr} {ma mb : ME} {pos : Pos} {k : Nat}
theorem e_ixD (hr : Room k X.A) (ha : SE X W a ma) (hb : SE X W b mb) (hs : PlainIx b := by intro _ _; rfl) (hn : NoSl b := by intro _ _; rfl) : SE X W (.Subscript a b pos) (mIxD ma mb) := PE.imp (PE.or (e_ix ha hb hs) (e_dix hr ha hb hn)) fun σ H Q ⟨w, ρ, h, e, s, p⟩ => by
  rcases mIxD_or ma mb ρ h with q | q <;> rw [q] at p
  · exact .inl ⟨w, ρ, h, e, s, p⟩
  · exact .inr ⟨w, ρ, h, e, s, p⟩
end
theorem kr_non {K : PySem.W.Frag} {mg : Str → Option Value} : KRel K mg .non .none := ⟨.non, rfl, fun wd => by simp only [VR]⟩
/-! ## defs and the shapes of their calls -/
def KwsOk (K : PySem.W.Frag) (mg : Str → Option Value) (Dk : Addr) : List (Str × D) → Prop
  | [] => True
  | (y, d) :: r => (∃ u, PySem.W.nsIn K Dk y = some (some u) ∧ KRel K mg d u) ∧ KwsOk K mg Dk r
theorem KwsOk.ex {K : PySem.W.Frag} {mg : Str → Option Value} {Dk : Addr} : ∀ {kws : List (Str × D)}, KwsOk K mg Dk kws → ∃ kv : List (Str × V), kv.map (·.1) = kws.map (·.1) ∧ (∀ q ∈ kv, ∃ u, PySem.W.nsIn K Dk q.1 = some (some u) ∧ RelV q.2 u) ∧ ∀ wd : Wd, VRs ⟨K, mg⟩ wd (kws.map (·.2)) (kv.map (·.2))
  | [], _ => ⟨[], rfl, (fun q h => by cases h), fun _ => .nil⟩
  | (y, d) :: r, h => by
    obtain ⟨⟨u, hu, v, rv, q⟩, hr⟩ := h
    obtain ⟨kv, e, hk, hq⟩ := KwsOk.ex hr
    refine ⟨(y, v) :: kv, by simp [e], fun z hz => ?_, fun wd => .cons (q wd) (hq wd)⟩
    rcases List.mem_cons.mp hz with rfl | hz
    · exact ⟨u, hu, rv⟩
    · exact hk z hz
section
variable {P : Program} {w : World} {K : PySem.W.Frag} {mg : Str → Option Value} {base : Heap} {x qual : Str} {st : Stmt} {ps ks : List Str} {f : Addr} {fd : FuncData} {k n : Nat} {dvs : List D} {kws : List (Str × D)} {m : List D → Hd → Res D} {gD : List D → List D → List D}
  {oc : Value} {od an : Option Addr} {osl : Array (Option Value)} {kV doc pm cdv ct : Value}
theorem defX0 (l : K.lookup f = some ⟨oc, od, .func (PySem.W.fnOf x qual (defArgs st) (defBody st) (defScope st) .none kV doc pm an cdv ct), osl⟩) (c : PySem.W.codeIn K cdv qual = true) (kp : PySem.W.keepIn K (.ref f) = true) :
    DefX K mg x qual st [] [] f (PySem.W.fnOf x qual (defArgs st) (defBody st) (defScope st) .none kV doc pm an cdv ct) :=
  ⟨[], [], ⟨⟨oc, od, .none, kV, doc, pm, an, cdv, ct, osl, rfl, l, c, .inl ⟨rfl, rfl⟩, .inl rfl⟩, kp⟩, fun _ => .nil, rfl, fun _ => .nil⟩
theorem defXk {Dk : Addr} (l : K.lookup f = some ⟨oc, od, .func (PySem.W.fnOf x qual (defArgs st) (defBody st) (defScope st) .none (.ref Dk) doc pm an cdv ct), osl⟩) (c : PySem.W.codeIn K cdv qual = true) (kp : PySem.W.keepIn K (.ref f) = true) (h : KwsOk K mg Dk kws) :
    DefX K mg x qual st [] kws f (PySem.W.fnOf x qual (defArgs st) (defBody st) (defScope st) .none (.ref Dk) doc pm an cdv ct) := by
  obtain ⟨kv, e, hk, hq⟩ := h.ex
  exact ⟨[], kv, ⟨⟨oc, od, .none, .ref Dk, doc, pm, an, cdv, ct, osl, rfl, l, c, .inl ⟨rfl, rfl⟩, .inr ⟨Dk, rfl, hk⟩⟩, kp⟩, fun _ => .nil, e, hq⟩
theorem defXd {T : Addr} {its : Array Value} {tn : Nat} {to_ : Option Addr} {tsl : Array (Option Value)} (l : K.lookup f = some ⟨oc, od, .func (PySem.W.fnOf x qual (defArgs st) (defBody st) (defScope st) (.ref T) kV doc pm an cdv ct), osl⟩) (c : PySem.W.codeIn K cdv qual = true) (kp : PySem.W.keepIn K (.ref f) = true)
    (t : K.lookup T = some ⟨.type "tuple", to_, .seq its tn, tsl⟩) (hd : KRels K mg dvs its.toList) (hne : dvs ≠ []) : DefX K mg x qual st dvs [] f (PySem.W.fnOf x qual (defArgs st) (defBody st) (defScope st) (.ref T) kV doc pm an cdv ct) := by
  obtain ⟨vs, rs, q⟩ := hd.ex
  refine ⟨vs, [], ⟨⟨oc, od, .ref T, kV, doc, pm, an, cdv, ct, osl, rfl, l, c, .inr ⟨fun z => hne ?_, T, _, its.toList, tn, rfl, t, by simp, rs⟩, .inl rfl⟩, kp⟩, q, rfl, fun _ => .nil⟩
  subst z
  have := (q ⟨fun _ => none, fun _ => none, fun _ => none⟩).len
  exact List.length_eq_zero_iff.mp this
structure ShB (K : PySem.W.Frag) (mg : Str → Option Value) (x : Str) (f : Addr) (fd : FuncData) (ps : List Str) (n : Nat) (ks : List Str) (gD : List D → List D → List D) : Prop where
  m : mg x = some (.ref f)
  k : PySem.W.keepIn K (.ref f) = true
  b : BnG K mg fd ps n ks gD
theorem ShB.cal (S : ShB K mg x f fd ps n ks gD) (F : FnG P w K mg base (L2.CX P w) k f fd ps (spM ⟨K, mg⟩ ps.length m)) : CalG P w K mg base k x n ks gD m := ⟨f, fd, ps, F, S.m, S.k, S.b⟩
end
/-! ## running them -/
section
variable {h : Hd} {ρ : Env}
def calGB (n j : Nat) (gD : List D → List D → List D) (m : List D → Hd → Res D) (ds : List D) : Res (List D) → Res D
  | .ok es h => if ds.length = n ∧ es.length = j then m (gD ds es) h else .bad
  | .exc x h => .exc x h
  | .bad => .bad
def calGA (n j : Nat) (gD : List D → List D → List D) (m : List D → Hd → Res D) (mk : MA) (ρ : Env) : Res (List D) → Res D
  | .ok ds h => calGB n j gD m ds (mk ρ h)
  | .exc x h => .exc x h
  | .bad => .bad
@[simp] theorem calGB_ok (n j : Nat) (gD : List D → List D → List D) (m : List D → Hd → Res D) (ds es : List D) (h : Hd) : calGB n j gD m ds (.ok es h) = if ds.length = n ∧ es.length = j then m (gD ds es) h else .bad := rfl
@[simp] theorem calGB_exc (n j : Nat) (gD : List D → List D → List D) (m : List D → Hd → Res D) (ds : List D) (x : Xc) (h : Hd) : calGB n j gD m ds (.exc x h) = .exc x h := rfl
@[simp] theorem calGA_ok (n j : Nat) (gD : List D → List D → List D) (m : List D → Hd → Res D) (mk : MA) (ρ : Env) (ds : List D) (h : Hd) : calGA n j gD m mk ρ (.ok ds h) = calGB n j gD m ds (mk ρ h) := rfl
@[simp] theorem calGA_exc (n j : Nat) (gD : List D → List D → List D) (m : List D → Hd → Res D) (mk : MA) (ρ : Env) (x : Xc) (h : Hd) : calGA n j gD m mk ρ (.exc x h) = .exc x h := rfl
@[simp] theorem mCalG_k (n j : Nat) (gD : List D → List D → List D) (m : List D → Hd → Res D) (ma mk : MA) (ρ : Env) (h : Hd) : mCalG n j gD m ma mk ρ h = calGA n j gD m mk ρ (ma ρ h) := by
  unfold mCalG calGA
  cases ma ρ h with
  | ok ds h1 =>
    show (mk ρ h1).bind _ = calGB n j gD m ds (mk ρ h1)
    unfold calGB
    cases mk ρ h1 <;> rfl
  | exc x h1 => rfl
  | bad => rfl
def ixDK2 (x : D) : Res D → Res D
  | .ok y h => optR (ixDF h x y) h
  | .exc x h => .exc x h
  | .bad => .bad
def ixDK (mb : ME) (ρ : Env) : Res D → Res D
  | .ok x h => ixDK2 x (mb ρ h)
  | .exc x h => .exc x h
  | .bad => .bad
@[simp] theorem ixDK2_ok (x y : D) (h : Hd) : ixDK2 x (.ok y h) = optR (ixDF h x y) h := rfl
@[simp] theorem ixDK_ok (mb : ME) (ρ : Env) (x : D) (h : Hd) : ixDK mb ρ (.ok x h) = ixDK2 x (mb ρ h) := rfl
@[simp] theorem mIxD_k (ma mb : ME) (ρ : Env) (h : Hd) : mIxD ma mb ρ h = ixDK mb ρ (ma ρ h) := by
  unfold mIxD ixDK
  cases ma ρ h with
  | ok x h1 =>
    show (mb ρ h1).bind _ = ixDK2 x (mb ρ h1)
    unfold ixDK2
    cases mb ρ h1 <;> rfl
  | exc x h1 => rfl
  | bad => rfl
theorem dgetF_no {x y : D} (a : dctOf h x = none) (b : dttOf h x = none) : dgetF h x y = none := by
  unfold dgetF
  rw [a, b]
@[simp] theorem ixDF_tup (xs : List D) (y : D) : ixDF h (.tup xs) y = ixF h (.tup xs) y := by unfold ixDF; rw [dgetF_no rfl rfl]
@[simp] theorem ixDF_ktp (xs : List D) (y : D) : ixDF h (.ktp xs) y = ixF h (.ktp xs) y := by unfold ixDF; rw [dgetF_no rfl rfl]
@[simp] theorem ixDF_lst (xs : List D) (y : D) : ixDF h (.lst xs) y = ixF h (.lst xs) y := by unfold ixDF; rw [dgetF_no rfl rfl]
@[simp] theorem ixDF_rol (xs : List D) (y : D) : ixDF h (.rol xs) y = ixF h (.rol xs) y := by unfold ixDF; rw [dgetF_no rfl rfl]
@[simp] theorem ixDF_str (s : Str) (y : D) : ixDF h (.str s) y = ixF h (.str s) y := by unfold ixDF; rw [dgetF_no rfl rfl]
theorem ixDF_ref {r : Nat} {xs : List D} (y : D) (e : h[r]? = some (.lst xs)) : ixDF h (.ref r) y = ixF h (.ref r) y := by unfold ixDF; rw [dgetF_no (by simp [dctOf, e]) (by simp [dttOf, e])]
@[simp] theorem ixDF_dctS (ks us : List D) (s : Str) : ixDF h (.dct ks us) (.str s) = valD ks us (.inr s) := by simp [ixDF, dgetF, dctOf, keyD]
@[simp] theorem ixDF_dctI (ks us : List D) (i : Int) : ixDF h (.dct ks us) (.int i) = valD ks us (.inl i) := by simp [ixDF, dgetF, dctOf, keyD]
@[simp] theorem cInD_tup (x : D) (xs : List D) : cInD x (.tup xs) h = cInX x (.tup xs) h := by unfold cInD; rw [dgetF_no rfl rfl]
@[simp] theorem cInD_ktp (x : D) (xs : List D) : cInD x (.ktp xs) h = cInX x (.ktp xs) h := by unfold cInD; rw [dgetF_no rfl rfl]
@[simp] theorem cInD_lst (x : D) (xs : List D) : cInD x (.lst xs) h = cInX x (.lst xs) h := by unfold cInD; rw [dgetF_no rfl rfl]
@[simp] theorem cInD_str (x : D) (s : Str) : cInD x (.str s) h = cInX x (.str s) h := by unfold cInD; rw [dgetF_no rfl rfl]
@[simp] theorem cNotInD_tup (x : D) (xs : List D) : cNotInD x (.tup xs) h = cNotInX x (.tup xs) h := by unfold cNotInD; rw [dgetF_no rfl rfl]
@[simp] theorem cNotInD_ktp (x : D) (xs : List D) : cNotInD x (.ktp xs) h = cNotInX x (.ktp xs) h := by unfold cNotInD; rw [dgetF_no rfl rfl]
@[simp] theorem cNotInD_lst (x : D) (xs : List D) : cNotInD x (.lst xs) h = cNotInX x (.lst xs) h := by unfold cNotInD; rw [dgetF_no rfl rfl]
@[simp] theorem cNotInD_str (x : D) (s : Str) : cNotInD x (.str s) h = cNotInX x (.str s) h := by unfold cNotInD; rw [dgetF_no rfl rfl]
@[simp] theorem cInD_dctI (i : Int) (ks us : List D) : cInD (.int i) (.dct ks us) h = .ok (valD ks us (.inl i)).isSome h := by simp [cInD, dgetF, dctOf, keyD]
@[simp] theorem cInD_dctS (s : Str) (ks us : List D) : cInD (.str s) (.dct ks us) h = .ok (valD ks us (.inr s)).isSome h := by simp [cInD, dgetF, dctOf, keyD]
@[simp] theorem cNotInD_dctI (i : Int) (ks us : List D) : cNotInD (.int i) (.dct ks us) h = .ok (!(valD ks us (.inl i)).isSome) h := by simp [cNotInD, dgetF, dctOf, keyD]
@[simp] theorem srtDF_dct (ks us : List D) : srtDF [.dct ks us] h = match keysI ks with
  | some ns => if ns.length < 64 then .ok (.new (.lst ((srtI ns).map .int))) h else .bad
  | none => .bad := rfl
theorem dctOf_lst {xs : List D} : dctOf h (.lst xs) = none := rfl
@[simp] theorem srtDF_lst (xs : List D) : srtDF [.lst xs] h = srtF [.lst xs] h := rfl
@[simp] theorem listDF_dct (ks us : List D) : listDF [.dct ks us] h = .ok (.new (.lst ks)) h := rfl
@[simp] theorem listDF_lst (xs : List D) : listDF [.lst xs] h = listF [.lst xs] h := rfl
@[simp] theorem listDF_rol (xs : List D) : listDF [.rol xs] h = listF [.rol xs] h := rfl
@[simp] theorem listDF_tup (xs : List D) : listDF [.tup xs] h = listF [.tup xs] h := rfl
@[simp] theorem dictF_dct (ks us : List D) : dictF [.dct ks us] h = .ok (.new (.dct ks us)) h := rfl
@[simp] theorem enumF_tup (xs : List D) : enumF h [.tup xs] = some ⟨enumD xs, fun _ => True⟩ := rfl
@[simp] theorem enumF_ktp (xs : List D) : enumF h [.ktp xs] = some ⟨enumD xs, fun _ => True⟩ := rfl
@[simp] theorem enumF_lst (xs : List D) : enumF h [.lst xs] = some ⟨enumD xs, fun h => lstOf h (.lst xs) = some xs⟩ := rfl
def fzVK (i : Nat) (m : MS) (ρ : Env) : Res D → Fl
  | .ok d h => m (ρ.set i (some d)) h
  | _ => .bad
@[simp] theorem fzVK_ok (i : Nat) (m : MS) (ρ : Env) (d : D) (h : Hd) : fzVK i m ρ (.ok d h) = m (ρ.set i (some d)) h := rfl
theorem mFzV_k {i : Nat} {m : MS} {d : D} (e : ρ[i]? = some (some d)) : mFzV i m ρ h = fzVK i m ρ (frzD d h) := by
  unfold mFzV fzVK
  rw [e] <;> (show (match frzD d h with | .ok d' h' => m (ρ.set i (some d')) h' | _ => Fl.bad) = _; cases frzD d h <;> rfl)
def lrgK1 : Res D → Res O
  | .ok (.int j) h => if 0 ≤ j ∧ j ≤ 16777216 then .ok (.new (.lst (rangeD 0 j.toNat))) h else .bad
  | .ok _ _ => .bad
  | .exc x h => .exc x h
  | .bad => .bad
@[simp] theorem mLRg1_k (ma : ME) (ρ : Env) (h : Hd) : mLRg1 ma ρ h = lrgK1 (ma ρ h) := by
  unfold mLRg1 lrgK1
  cases ma ρ h with
  | ok d h1 => cases d <;> rfl
  | exc x h1 => rfl
  | bad => rfl
@[simp] theorem lrgK1_ok (j : Int) (h : Hd) : lrgK1 (.ok (.int j) h) = if 0 ≤ j ∧ j ≤ 16777216 then .ok (.new (.lst (rangeD 0 j.toNat))) h else .bad := rfl
def lrgK2 (i : Int) : Res D → Res O
  | .ok (.int j) h => if 0 ≤ i ∧ i ≤ 16777216 ∧ 0 ≤ j ∧ j ≤ 16777216 then .ok (.new (.lst (rangeD i (j - i).toNat))) h else .bad
  | .ok _ _ => .bad
  | .exc x h => .exc x h
  | .bad => .bad
def lrgKA (mb : ME) (ρ : Env) : Res D → Res O
  | .ok (.int i) h => lrgK2 i (mb ρ h)
  | .ok _ h => (mb ρ h).bind fun _ _ => .bad
  | .exc x h => .exc x h
  | .bad => .bad
@[simp] theorem mLRg2_k (ma mb : ME) (ρ : Env) (h : Hd) : mLRg2 ma mb ρ h = lrgKA mb ρ (ma ρ h) := by
  unfold mLRg2 lrgKA
  cases ma ρ h with
  | ok d h1 =>
    cases d with
    | int i =>
      show (mb ρ h1).bind _ = lrgK2 i (mb ρ h1)
      unfold lrgK2
      cases mb ρ h1 with
      | ok d2 h2 => cases d2 <;> rfl
      | exc x h2 => rfl
      | bad => rfl
    | _ => rfl
  | exc x h1 => rfl
  | bad => rfl
@[simp] theorem lrgKA_ok (mb : ME) (ρ : Env) (i : Int) (h : Hd) : lrgKA mb ρ (.ok (.int i) h) = lrgK2 i (mb ρ h) := rfl
@[simp] theorem lrgK2_ok (i j : Int) (h : Hd) : lrgK2 i (.ok (.int j) h) = if 0 ≤ i ∧ i ≤ 16777216 ∧ 0 ≤ j ∧ j ≤ 16777216 then .ok (.new (.lst (rangeD i (j - i).toNat))) h else .bad := rfl
end
end DD
namespace DD
open PySem PySem.Spec L2 RZ
/-! reading an own cell -/
def refIx : Option Cell → D → Option D
  | some (.lst xs), .int i => atI xs i
  | some (.dct ks us), .int i => valD ks us (.inl i)
  | some (.dct ks us), .str s => valD ks us (.inr s)
  | _, _ => none
@[simp] theorem refIx_lst (xs : List D) (i : Int) : refIx (some (.lst xs)) (.int i) = atI xs i := rfl
@[simp] theorem refIx_dctI (ks us : List D) (i : Int) : refIx (some (.dct ks us)) (.int i) = valD ks us (.inl i) := rfl
@[simp] theorem refIx_dctS (ks us : List D) (s : Str) : refIx (some (.dct ks us)) (.str s) = valD ks us (.inr s) := rfl
@[simp] theorem ixDF_refI {h : Hd} {r : Nat} (i : Int) : ixDF h (.ref r) (.int i) = refIx h[r]? (.int i) := by
  unfold ixDF
  cases e : h[r]? with
  | none => rw [dgetF_no (by simp [dctOf, e]) (by simp [dttOf, e])]; simp [ixF, seqOf, lstOf, e, refIx]
  | some z =>
    cases z with
    | lst xs => rw [dgetF_no (by simp [dctOf, e]) (by simp [dttOf, e])]; simp [ixF, seqOf, lstOf, e]
    | dct ks us => simp [dgetF, dctOf, e, keyD]
    | dtt ks us => simp [dgetF, dctOf, dttOf, e, keyD, tkeyD, ixF, seqOf, lstOf, refIx]
    | ins n ns us => rw [dgetF_no (by simp [dctOf, e]) (by simp [dttOf, e])]; simp [ixF, seqOf, lstOf, e, refIx]
    | gone => rw [dgetF_no (by simp [dctOf, e]) (by simp [dttOf, e])]; simp [ixF, seqOf, lstOf, e, refIx]
@[simp] theorem ixDF_refS {h : Hd} {r : Nat} (s : Str) : ixDF h (.ref r) (.str s) = refIx h[r]? (.str s) := by
  unfold ixDF
  cases e : h[r]? with
  | none => rw [dgetF_no (by simp [dctOf, e]) (by simp [dttOf, e])]; simp [ixF, refIx]
  | some z =>
    cases z with
    | lst xs => rw [dgetF_no (by simp [dctOf, e]) (by simp [dttOf, e])]; simp [ixF, refIx]
    | dct ks us => simp [dgetF, dctOf, e, keyD]
    | dtt ks us => simp [dgetF, dctOf, dttOf, e, keyD, tkeyD, ixF, refIx]
    | ins n ns us => rw [dgetF_no (by simp [dctOf, e]) (by simp [dttOf, e])]; simp [ixF, refIx]
    | gone => rw [dgetF_no (by simp [dctOf, e]) (by simp [dttOf, e])]; simp [ixF, refIx]
end DD
set_option Elab.async false
set_option linter.all false
set_option maxRecDepth 100000
set_option maxHeartbeats 4000000
namespace DD
open PySem PySem.Spec L2 RZ
@[simp] theorem startD_4 (n : Nat) (a b c d : D) : startD n [a, b, c, d] = some a :: some b :: some c :: some d :: List.replicate (n - 4) none := by simp [startD]
@[simp] theorem startD_5 (n : Nat) (a b c d e : D) : startD n [a, b, c, d, e] = some a :: some b :: some c :: some d :: some e :: List.replicate (n - 5) none := by simp [startD]
@[simp] theorem startD_6 (n : Nat) (a b c d e f : D) : startD n [a, b, c, d, e, f] = some a :: some b :: some c :: some d :: some e :: some f :: List.replicate (n - 6) none := by simp [startD]
@[simp] theorem gStarM_lst (i : Nat) (gs : MGs) (xs : List D) (ρ : Env) (h : Hd) : gStarM i gs (.lst xs) ρ h = if i ≤ xs.length ∧ xs.length ≤ 16384 then gs (xs.take i ++ [.lst (xs.drop i)]) ρ h else .bad := rfl
/-- comprehensions of one, of two items -/
theorem lc1 {i : Nat} {e : ME} {ρ : Env} {h : Hd} {x y : D} (q : e (ρ.set i (some x)) h = .ok y h) : lcGo (fun _ => True) (gSet i) tYesM e ρ [x] [] h = .ok [y] h := by
  rw [lcGo_pure (fun _ => y) trivial]
  · rfl
  · intro d m
    rw [List.mem_singleton.mp m]
    exact ⟨_, rfl, rfl, q⟩
  · exact sz_small (by simp)
theorem lc2 {i : Nat} {e : ME} {ρ : Env} {h : Hd} {x y a b : D} (q1 : e (ρ.set i (some x)) h = .ok a h) (q2 : e (ρ.set i (some y)) h = .ok b h) : lcGo (fun _ => True) (gSet i) tYesM e ρ [x, y] [] h = .ok [a, b] h := by
  have hz : (1 : Nat) ≤ sizeLine := sz_small (by simp)
  have hz2 : (2 : Nat) ≤ sizeLine := sz_small (by simp)
  have t1 : tYesM (ρ.set i (some x)) h = .ok true h := rfl
  have t2 : tYesM (ρ.set i (some y)) h = .ok true h := rfl
  have g1 : gSet i x ρ h = .ok (ρ.set i (some x)) h := rfl
  have g2 : gSet i y ρ h = .ok (ρ.set i (some y)) h := rfl
  unfold lcGo
  rw [if_pos trivial, noX_ok g1]
  simp only [Res.bind_ok]
  rw [noX_ok t1]
  simp only [Res.bind_ok, if_true]
  rw [noX_ok q1]
  simp only [Res.bind_ok]
  rw [if_pos (show ([] : List D).length < sizeLine from hz)]
  unfold lcGo
  rw [if_pos trivial, noX_ok g2]
  simp only [Res.bind_ok]
  rw [noX_ok t2]
  simp only [Res.bind_ok, if_true]
  rw [noX_ok q2]
  simp only [Res.bind_ok]
  rw [if_pos (show ([] ++ [a] : List D).length < sizeLine from hz2)]
  unfold lcGo
  rw [if_pos trivial]
  rfl
/-- a comprehension that lets items through -/
theorem lcGo_filter {α : Type} {chk : Hd → Prop} {i : Nat} {t : MT} {e : ME} {ρ : Env} {h : Hd} (hc : chk h) (f : α → D) (b : α → Bool) (g : α → D) : ∀ (xs : List α) (acc : List D),
    (∀ x ∈ xs, t (ρ.set i (some (f x))) h = .ok (b x) h ∧ e (ρ.set i (some (f x))) h = .ok (g x) h) → acc.length + xs.length ≤ sizeLine → lcGo chk (gSet i) t e ρ (xs.map f) acc h = .ok (acc ++ (xs.filter b).map g) h
  | [], acc, _, _ => by
    simp only [List.map_nil, List.filter_nil, List.append_nil]
    unfold lcGo; rw [if_pos hc]
  | x :: xs, acc, he, hz => by
    obtain ⟨a2, a3⟩ := he x (by simp)
    have hz' : acc.length + xs.length + 1 ≤ sizeLine := by simpa [Nat.add_assoc] using hz
    have ih := fun acc' => lcGo_filter hc f b g xs acc' fun y m => he y (List.mem_cons_of_mem _ m)
    have g1 : gSet i (f x) ρ h = .ok (ρ.set i (some (f x))) h := rfl
    rw [List.map_cons]
    unfold lcGo
    rw [if_pos hc, noX_ok g1]
    simp only [Res.bind_ok]
    rw [noX_ok a2]
    simp only [Res.bind_ok]
    cases hb : b x with
    | true =>
      simp only [if_true]
      rw [noX_ok a3]
      simp only [Res.bind_ok]
      rw [if_pos (by omega), ih _ (by simp; omega), List.filter_cons_of_pos hb]
      simp
    | false =>
      rw [if_neg (by simp), ih _ (by omega), List.filter_cons_of_neg (by simp [hb])]
end DD
set_option Elab.async false
set_option linter.all false
set_option maxRecDepth 100000
set_option maxHeartbeats 4000000
namespace Law
open PySem PySem.Spec L2 RZ DD
section
variable {P : Program} {w : World} {K : PySem.W.Frag} {mg : Str → Option Value} {base : Heap}
def topS (i : Nat) : Stmt := PySem.Challenge.pw_standwrit_k07_whom_conditions_take.main.body.getD i (.Pass ⟨0, 0, 0, 0⟩)
structure Txt (K : PySem.W.Frag) (w : World) (mg : Str → Option Value) : Prop where
  b_all : mg "all" = none
  b_any : mg "any" = none
  b_bool : mg "bool" = none
  b_dict : mg "dict" = none
  b_enumerate : mg "enumerate" = none
  b_int : mg "int" = none
  b_isinstance : mg "isinstance" = none
  b_len : mg "len" = none
  b_list : mg "list" = none
  b_range : mg "range" = none
  b_repr : mg "repr" = none
  b_set : mg "set" = none
  b_sorted : mg "sorted" = none
  b_str : mg "str" = none
  b_tuple : mg "tuple" = none
  b_zip : mg "zip" = none

abbrev sthand_seen : Stmt := topS 1
abbrev Nhand_seen : List Str := ["looks", "own", "hand"]
theorem schand_seen : FnScope Nhand_seen ["looks", "own", "hand"] (defScope sthand_seen) := ⟨rfl, rfl, rfl, by decide +kernel, rfl, by decide +kernel, by decide +kernel⟩
noncomputable def bhand_seen : MS :=
    (mRet (mIf (mCmp cInD (mVar 1) (mVar 0)) (mIxD (mIxD (mVar 0) (mVar 1)) (mC (.str "hand"))) (mVar 2)))
noncomputable def mhand_seen : List D → Hd → Res D := runB 3 bhand_seen
theorem okhand_seen (T : Txt K w mg) {f : Addr} {fd : FuncData} (Fhand_seen : DefX K mg "hand_seen" "hand_seen" sthand_seen [] [] f fd)  : FnG P w K mg base (L2.CX P w) 1 f fd ["looks", "own", "hand"] (spM ⟨K, mg⟩ (["looks", "own", "hand"] : List Str).length mhand_seen) := (fn_okX Fhand_seen schand_seen fun cdv A outer s H E hr =>
    (s_one (s_ret (e_if (t_inDD hr.r (e_var 1) (e_var 0)) (e_ixD hr.r (e_ixD hr.r (e_var 0) (e_var 1)) e_str) (e_var 2)))))

abbrev sttakes : Stmt := topS 2
abbrev Ntakes : List Str := ["condition", "looks", "number", "own", "hand", "first", "rest", "look", "told", "part"]
theorem sctakes : FnScope Ntakes ["condition", "looks", "number", "own", "hand"] (defScope sttakes) := ⟨rfl, rfl, rfl, by decide +kernel, rfl, by decide +kernel, by decide +kernel⟩
noncomputable def btakes (qtakes : List D → Hd → Res D) : MS :=
    (mSeq (mAsg (mVar 0) (gStarM 1 (gsCons (gSet 5) (gsCons (gSet 6) gsNil))))
    (mSeq (mSet 7 (mIxD (mVar 1) (mVar 2)))
    (mSeq (mIfS (mCmp cEq (mVar 5) (mC (.str "any"))) (mRet (mC (.bl true))) mNil)
    (mSeq (mIfS (mCmp cEq (mVar 5) (mC (.str "self"))) (mRet (mB (mCmp cEq (mVar 2) (mVar 3)))) mNil)
    (mSeq (mIfS (mCmp cEq (mVar 5) (mC (.str "other"))) (mRet (mB (mCmp cNe (mVar 2) (mVar 3)))) mNil)
    (mSeq (mIfS (mCmp cEq (mVar 5) (mC (.str "mine"))) (mRet (mB (mCmp cEq (mIxD (mVar 7) (mC (.str "hand"))) (mCalG 3 0 (fun ds _ => ds) mhand_seen (aCons (mVar 1) (aCons (mVar 3) (aCons (mVar 4) aNil))) aNil)))) mNil)
    (mSeq (mIfS (mCmp cEq (mVar 5) (mC (.str "kind"))) (mRet (mB (mCmp cInD (mIxD (mVar 6) (mC (.int 0))) (mIxD (mVar 7) (mC (.str "kinds")))))) mNil)
    (mSeq (mIfS (mCmp cEq (mVar 5) (mC (.str "colour"))) (mRet (mB (mCmp cInD (mIxD (mVar 6) (mC (.int 0))) (mIxD (mVar 7) (mC (.str "colours")))))) mNil)
    (mSeq (mIfS (mCmp cEq (mVar 5) (mC (.str "least"))) (mRet (mB (mCmp cGe (mIxD (mVar 7) (mC (.str "force"))) (mIxD (mVar 6) (mC (.int 0)))))) mNil)
    (mSeq (mIfS (mCmp cEq (mVar 5) (mC (.str "not"))) (mRet (mNotV (mCalG 3 2 (fun ds es => pickL [0, 1, 2, 3, 4] (ds ++ es)) qtakes (aCons (mIxD (mVar 6) (mC (.int 0))) (aCons (mVar 1) (aCons (mVar 2) aNil))) (aCons (mVar 3) (aCons (mVar 4) aNil))))) mNil)
    (mSeq (mSet 8 (mFz (mLc [9] (mIterD (mVar 6)) (gSet 9) tYesM (mCalG 3 2 (fun ds es => pickL [0, 1, 2, 3, 4] (ds ++ es)) qtakes (aCons (mVar 9) (aCons (mVar 1) (aCons (mVar 2) aNil))) (aCons (mVar 3) (aCons (mVar 4) aNil))))))
    (mRet (mIf (mCmp cEq (mVar 5) (mC (.str "both"))) (mFz (mBi allF (aCons (mVar 8) aNil))) (mFz (mBi anyF (aCons (mVar 8) aNil))))))))))))))))
noncomputable def rtakes : Nat → List D → Hd → Res D
  | 0 => runB 10 mBadS
  | n + 1 => runB 10 (btakes (rtakes n))
theorem roktakes (T : Txt K w mg) {ftakes : Addr} {dtakes : FuncData} (Ftakes : DefX K mg "takes" "takes" sttakes [] [("own", .int (0)), ("hand", .non)] ftakes dtakes) (Btakes_3_own_hand : ShB K mg "takes" ftakes dtakes ["condition", "looks", "number", "own", "hand"] 3 ["own", "hand"] (fun ds es => pickL [0, 1, 2, 3, 4] (ds ++ es))) (Chand_seen_3 : CalG P w K mg base 1 "hand_seen" 3 [] (fun ds _ => ds) mhand_seen) : ∀ n : Nat, (FnG P w K mg base (L2.CX P w) (1 + n + 1) ftakes dtakes ["condition", "looks", "number", "own", "hand"] (spM ⟨K, mg⟩ (["condition", "looks", "number", "own", "hand"] : List Str).length (rtakes n)))
  | 0 => fn_okX Ftakes sctakes fun cdv A outer s H E hr => ss_bad
  | n + 1 =>
    have Otakes := roktakes T Ftakes Btakes_3_own_hand Chand_seen_3 n
    have Ctakes_3_own_hand := Btakes_3_own_hand.cal Otakes
    fn_okX Ftakes sctakes fun cdv A outer s H E hr =>
    (s_cons (s_asg (e_var 0) (g_star rfl (gs_cons (gn_name 5 sctakes.nd) (gs_star (gn_name 6 sctakes.nd)))))
    (s_cons (s_set 7 (e_ixD hr.r (e_var 1) (e_var 2)) sctakes.nd)
    (s_cons (s_if (t_eq hr.r (e_var 5) e_str) (s_one (s_ret e_bl)) s_nil)
    (s_cons (s_if (t_eq hr.r (e_var 5) e_str) (s_one (s_ret (e_eq hr.r (e_var 2) (e_var 3)))) s_nil)
    (s_cons (s_if (t_eq hr.r (e_var 5) e_str) (s_one (s_ret (e_ne hr.r (e_var 2) (e_var 3)))) s_nil)
    (s_cons (s_if (t_eq hr.r (e_var 5) e_str) (s_one (s_ret (e_eq hr.r (e_ixD hr.r (e_var 7) e_str) (e_calG Chand_seen_3 (hr.mono (by omega)) (takes_of rfl rfl rfl rfl) (a_cons (e_var 1) (a_cons (e_var 3) (a_cons (e_var 4) a_nil))) k_nil)))) s_nil)
    (s_cons (s_if (t_eq hr.r (e_var 5) e_str) (s_one (s_ret (e_inDD hr.r (e_ixD hr.r (e_var 6) e_int) (e_ixD hr.r (e_var 7) e_str)))) s_nil)
    (s_cons (s_if (t_eq hr.r (e_var 5) e_str) (s_one (s_ret (e_inDD hr.r (e_ixD hr.r (e_var 6) e_int) (e_ixD hr.r (e_var 7) e_str)))) s_nil)
    (s_cons (s_if (t_eq hr.r (e_var 5) e_str) (s_one (s_ret (e_ge (e_ixD hr.r (e_var 7) e_str) (e_ixD hr.r (e_var 6) e_int)))) s_nil)
    (s_cons (s_if (t_eq hr.r (e_var 5) e_str) (s_one (s_ret (e_not (e_calG Ctakes_3_own_hand (hr.mono (by omega)) (takes_of rfl rfl rfl rfl) (a_cons (e_ixD hr.r (e_var 6) e_int) (a_cons (e_var 1) (a_cons (e_var 2) a_nil))) (k_cons (e_var 3) (k_cons (e_var 4) k_nil)))))) s_nil)
    (s_cons (s_lcFz 8 rfl sctakes.nd (i_anyD (e_var 6)) (blkOk_by (own := [("part", 9)]) (N := Ntakes) (sc := defScope sttakes) (by decide +kernel)) (fun _ _ _ _ _ => (g_name 9 sctakes.nd)) (fun _ _ _ _ _ => ts_nil) (fun _ _ _ _ _ => (e_calG Ctakes_3_own_hand (hr.mono (by omega)) takes0 (a_cons (e_var 9) (a_cons (e_var 1) (a_cons (e_var 2) a_nil))) (k_cons (e_var 3) (k_cons (e_var 4) k_nil)))))
    (s_one (s_ret (e_if (t_eq hr.r (e_var 5) e_str) (SO.fz (e_bi (cr_all rfl) s_all T.b_all PyProof.Rows.boot_all (a_cons (e_var 8) a_nil))) (SO.fz (e_bi (cr_any rfl) s_any T.b_any PyProof.Rows.boot_any (a_cons (e_var 8) a_nil)))))))))))))))))
noncomputable abbrev mtakes := rtakes 5
theorem oktakes (T : Txt K w mg) {ftakes : Addr} {dtakes : FuncData} (Ftakes : DefX K mg "takes" "takes" sttakes [] [("own", .int (0)), ("hand", .non)] ftakes dtakes) (Btakes_3_own_hand : ShB K mg "takes" ftakes dtakes ["condition", "looks", "number", "own", "hand"] 3 ["own", "hand"] (fun ds es => pickL [0, 1, 2, 3, 4] (ds ++ es))) (Chand_seen_3 : CalG P w K mg base 1 "hand_seen" 3 [] (fun ds _ => ds) mhand_seen) : (FnG P w K mg base (L2.CX P w) 7 ftakes dtakes ["condition", "looks", "number", "own", "hand"] (spM ⟨K, mg⟩ (["condition", "looks", "number", "own", "hand"] : List Str).length mtakes)) := roktakes T Ftakes Btakes_3_own_hand Chand_seen_3 5

abbrev sttaken : Stmt := topS 3
abbrev Ntaken : List Str := ["condition", "looks", "own", "hand", "number"]
theorem sctaken : FnScope Ntaken ["condition", "looks", "own", "hand"] (defScope sttaken) := ⟨rfl, rfl, rfl, by decide +kernel, rfl, by decide +kernel, by decide +kernel⟩
noncomputable def btaken : MS :=
    (mRet (mFz (mBi tupleF (aCons (mFz (mLc [4] (mIterD (mFz (mBi srtDF (aCons (mVar 1) aNil)))) (gSet 4) (mTru (mCalG 3 2 (fun ds es => pickL [0, 1, 2, 3, 4] (ds ++ es)) mtakes (aCons (mVar 0) (aCons (mVar 1) (aCons (mVar 4) aNil))) (aCons (mVar 2) (aCons (mVar 3) aNil)))) (mVar 4))) aNil))))
noncomputable def mtaken : List D → Hd → Res D := runB 5 btaken
theorem oktaken (T : Txt K w mg) {f : Addr} {fd : FuncData} (Ftaken : DefX K mg "taken" "taken" sttaken [] [("own", .int (0)), ("hand", .non)] f fd) (Ctakes_3_own_hand : CalG P w K mg base 7 "takes" 3 ["own", "hand"] (fun ds es => pickL [0, 1, 2, 3, 4] (ds ++ es)) mtakes) : FnG P w K mg base (L2.CX P w) 8 f fd ["condition", "looks", "own", "hand"] (spM ⟨K, mg⟩ (["condition", "looks", "own", "hand"] : List Str).length mtaken) := (fn_okX Ftaken sctaken fun cdv A outer s H E hr =>
    (s_one (s_ret (SO.fz (e_bt call_tuple_of s_tuple T.b_tuple PyProof.Rows.boot_tuple (a_cons (SO.fz (e_lc rfl sctaken.nd (i_anyD (SO.fz (e_bi (cr_srtD rfl) s_srtD T.b_sorted PyProof.Rows.boot_sorted (a_cons (e_var 1) a_nil)))) (blkOk_by (own := [("number", 4)]) (N := Ntaken) (sc := defScope sttaken) (by decide +kernel)) (fun _ _ _ _ _ => (g_name 4 sctaken.nd)) (fun _ _ _ _ _ => (ts_one (t_tru (e_calG Ctakes_3_own_hand (hr.mono (by decide)) takes0 (a_cons (e_var 0) (a_cons (e_var 1) (a_cons (e_var 4) a_nil))) (k_cons (e_var 2) (k_cons (e_var 3) k_nil)))))) (fun _ _ _ _ _ => (e_var 4)))) a_nil))))))

abbrev st_law_bag : Stmt := topS 5
abbrev N_law_bag : List Str := ["_law_script"]
theorem sc_law_bag : FnScope N_law_bag ["_law_script"] (defScope st_law_bag) := ⟨rfl, rfl, rfl, by decide +kernel, rfl, by decide +kernel, by decide +kernel⟩
noncomputable def b_law_bag : MS :=
    (mRet (mOwn (mLst (aCons (mFz (mBi listDF (aCons (mFz (mSl (mVar 0) oNone (oSome (mC (.int 63))))) aNil))) (aCons (mC (.int 0)) (aCons (mC (.int 0)) (aCons (mC (.int 8989)) (aCons (mC (.int 0)) (aCons (mC (.int 0)) aNil)))))))))
noncomputable def m_law_bag : List D → Hd → Res D := runB 1 b_law_bag
theorem ok_law_bag (T : Txt K w mg) {f : Addr} {fd : FuncData} (F_law_bag : DefX K mg "_law_bag" "_law_bag" st_law_bag [] [] f fd)  : FnG P w K mg base (L2.CX P w) 1 f fd ["_law_script"] (spM ⟨K, mg⟩ (["_law_script"] : List Str).length m_law_bag) := (fn_okX F_law_bag sc_law_bag fun cdv A outer s H E hr =>
    (s_one (s_ret (SO.own (e_lst (a_cons (SO.fz (e_bt (cr_listD rfl) s_listD T.b_list PyProof.Rows.boot_list (a_cons (SO.fz (e_sl (e_var 0) o_none (o_some e_int))) a_nil))) (a_cons e_int (a_cons e_int (a_cons e_int (a_cons e_int (a_cons e_int a_nil)))))))))))

abbrev st_law_get : Stmt := topS 6
abbrev N_law_get : List Str := ["_law_bag_here", "_law_size", "_law_cell", "_law_got"]
theorem sc_law_get : FnScope N_law_get ["_law_bag_here", "_law_size"] (defScope st_law_get) := ⟨rfl, rfl, rfl, by decide +kernel, rfl, by decide +kernel, by decide +kernel⟩
noncomputable def b_law_get : MS :=
    (mSeq (mAsg (mFz (mBin addF (mIxD (mVar 0) (mC (.int 4))) (mC (.int 1)))) (gSub (mVar 0) (mC (.int 4))))
    (mSeq (mIfS (mAnd (mCmp cLt (mIxD (mVar 0) (mC (.int 2))) (mVar 1)) (mCmp cLt (mIxD (mVar 0) (mC (.int 1))) (mFz (mBi lenF (aCons (mIxD (mVar 0) (mC (.int 0))) aNil))))) (mSeq (mSet 2 (mIxD (mIxD (mVar 0) (mC (.int 0))) (mIxD (mVar 0) (mC (.int 1)))))
    (mSeq (mAsg (mFz (mBin addF (mIxD (mVar 0) (mC (.int 1))) (mC (.int 1)))) (gSub (mVar 0) (mC (.int 1))))
    (mSeq (mAsg (mIf (mCmp cGe (mVar 2) (mFz (mBin powF (mC (.int 10)) (mC (.int 18))))) (mVar 2) (mC (.int 0))) (gSub (mVar 0) (mC (.int 2))))
    (mAsg (mFz (mBin modF (mFz (mBin addF (mFz (mBin addF (mFz (mBin mulF (mIxD (mVar 0) (mC (.int 3))) (mC (.int 40014)))) (mFz (mBin mulF (mFz (mBin modF (mVar 2) (mC (.int 1000000007)))) (mC (.int 9241)))))) (mC (.int 83)))) (mC (.int 2147483579)))) (gSub (mVar 0) (mC (.int 3))))))) mNil)
    (mSeq (mIfS (mCmp cGe (mIxD (mVar 0) (mC (.int 2))) (mVar 1)) (mSeq (mSet 3 (mFz (mBin modF (mIxD (mVar 0) (mC (.int 2))) (mVar 1))))
    (mSeq (mAsg (mFz (mBin fdivF (mIxD (mVar 0) (mC (.int 2))) (mVar 1))) (gSub (mVar 0) (mC (.int 2))))
    (mRet (mVar 3)))) mNil)
    (mSeq (mAsg (mFz (mBin modF (mFz (mBin addF (mFz (mBin addF (mFz (mBin mulF (mIxD (mVar 0) (mC (.int 3))) (mC (.int 68909)))) (mFz (mBin mulF (mIxD (mVar 0) (mC (.int 4))) (mC (.int 30269)))))) (mC (.int 1000003)))) (mC (.int 2147483579)))) (gSub (mVar 0) (mC (.int 3))))
    (mRet (mFz (mBin modF (mFz (mBin addF (mFz (mBin fdivF (mFz (mBin mulF (mIxD (mVar 0) (mC (.int 3))) (mIxD (mVar 0) (mC (.int 3))))) (mC (.int 32771)))) (mFz (mBin fdivF (mIxD (mVar 0) (mC (.int 3))) (mC (.int 41)))))) (mVar 1))))))))
noncomputable def m_law_get : List D → Hd → Res D := runB 4 b_law_get
theorem ok_law_get (T : Txt K w mg) {f : Addr} {fd : FuncData} (F_law_get : DefX K mg "_law_get" "_law_get" st_law_get [] [] f fd)  : FnG P w K mg base (L2.CX P w) 1 f fd ["_law_bag_here", "_law_size"] (spM ⟨K, mg⟩ (["_law_bag_here", "_law_size"] : List Str).length m_law_get) := (fn_okX F_law_get sc_law_get fun cdv A outer s H E hr =>
    (s_cons (s_asg (SO.fz (o_add (e_ixD hr.r (e_var 0) e_int) e_int)) (g_sub (e_var 0) e_int))
    (s_cons (s_if (t_w (w_and (t_lt (e_ixD hr.r (e_var 0) e_int) (e_var 1)) (w_and1 (t_lt (e_ixD hr.r (e_var 0) e_int) (SO.fz (e_bi call_len s_len T.b_len PySem.boot_len (a_cons (e_ixD hr.r (e_var 0) e_int) a_nil))))))) (s_cons (s_set 2 (e_ixD hr.r (e_ixD hr.r (e_var 0) e_int) (e_ixD hr.r (e_var 0) e_int)) sc_law_get.nd)
    (s_cons (s_asg (SO.fz (o_add (e_ixD hr.r (e_var 0) e_int) e_int)) (g_sub (e_var 0) e_int))
    (s_cons (s_asg (e_if (t_ge (e_var 2) (SO.fz (o_pow e_int e_int))) (e_var 2) e_int) (g_sub (e_var 0) e_int))
    (s_one (s_asg (SO.fz (o_mod (SO.fz (o_add (SO.fz (o_add (SO.fz (o_mul (e_ixD hr.r (e_var 0) e_int) e_int)) (SO.fz (o_mul (SO.fz (o_mod (e_var 2) e_int)) e_int)))) e_int)) e_int)) (g_sub (e_var 0) e_int)))))) s_nil)
    (s_cons (s_if (t_ge (e_ixD hr.r (e_var 0) e_int) (e_var 1)) (s_cons (s_set 3 (SO.fz (o_mod (e_ixD hr.r (e_var 0) e_int) (e_var 1))) sc_law_get.nd)
    (s_cons (s_asg (SO.fz (o_fdiv (e_ixD hr.r (e_var 0) e_int) (e_var 1))) (g_sub (e_var 0) e_int))
    (s_one (s_ret (e_var 3))))) s_nil)
    (s_cons (s_asg (SO.fz (o_mod (SO.fz (o_add (SO.fz (o_add (SO.fz (o_mul (e_ixD hr.r (e_var 0) e_int) e_int)) (SO.fz (o_mul (e_ixD hr.r (e_var 0) e_int) e_int)))) e_int)) e_int)) (g_sub (e_var 0) e_int))
    (s_one (s_ret (SO.fz (o_mod (SO.fz (o_add (SO.fz (o_fdiv (SO.fz (o_mul (e_ixD hr.r (e_var 0) e_int) (e_ixD hr.r (e_var 0) e_int))) e_int)) (SO.fz (o_fdiv (e_ixD hr.r (e_var 0) e_int) e_int)))) (e_var 1))))))))))

abbrev st_law_pick : Stmt := topS 7
abbrev N_law_pick : List Str := ["_law_bag_here", "_law_some"]
theorem sc_law_pick : FnScope N_law_pick ["_law_bag_here", "_law_some"] (defScope st_law_pick) := ⟨rfl, rfl, rfl, by decide +kernel, rfl, by decide +kernel, by decide +kernel⟩
noncomputable def b_law_pick : MS :=
    (mRet (mIxD (mVar 1) (mCalG 2 0 (fun ds _ => ds) m_law_get (aCons (mVar 0) (aCons (mFz (mBi lenF (aCons (mVar 1) aNil))) aNil)) aNil)))
noncomputable def m_law_pick : List D → Hd → Res D := runB 2 b_law_pick
theorem ok_law_pick (T : Txt K w mg) {f : Addr} {fd : FuncData} (F_law_pick : DefX K mg "_law_pick" "_law_pick" st_law_pick [] [] f fd) (C_law_get_2 : CalG P w K mg base 1 "_law_get" 2 [] (fun ds _ => ds) m_law_get) : FnG P w K mg base (L2.CX P w) 2 f fd ["_law_bag_here", "_law_some"] (spM ⟨K, mg⟩ (["_law_bag_here", "_law_some"] : List Str).length m_law_pick) := (fn_okX F_law_pick sc_law_pick fun cdv A outer s H E hr =>
    (s_one (s_ret (e_ixD hr.r (e_var 1) (e_calG C_law_get_2 (hr.mono (by decide)) (takes_of rfl rfl rfl rfl) (a_cons (e_var 0) (a_cons (SO.fz (e_bi call_len s_len T.b_len PySem.boot_len (a_cons (e_var 1) a_nil))) a_nil)) k_nil)))))

abbrev st_law_same : Stmt := topS 8
abbrev N_law_same : List Str := ["_law_found", "_law_due", "_law_key_now", "_law_a", "_law_b"]
theorem sc_law_same : FnScope N_law_same ["_law_found", "_law_due"] (defScope st_law_same) := ⟨rfl, rfl, rfl, by decide +kernel, rfl, by decide +kernel, by decide +kernel⟩
noncomputable def b_law_same (q_law_same : List D → Hd → Res D) : MS :=
    (mSeq (mIfS (mTru (mFz (mBi isiF (aCons (mVar 1) (aCons (mC (.ty "dict")) aNil))))) (mSeq (mIfS (mOr (mNot (mTru (mFz (mBi isiF (aCons (mVar 0) (aCons (mC (.ty "dict")) aNil)))))) (mCmp cNe (mFz (mBi srtDF (aCons (mVar 0) aNil))) (mFz (mBi srtDF (aCons (mVar 1) aNil))))) (mRet (mC (.bl false))) mNil)
    (mRet (mFz (mBi allF (aCons (mFz (mLc [2] (mIterD (mVar 1)) (gSet 2) tYesM (mCalG 2 0 (fun ds _ => ds) q_law_same (aCons (mIxD (mVar 0) (mVar 2)) (aCons (mIxD (mVar 1) (mVar 2)) aNil)) aNil))) aNil))))) mNil)
    (mSeq (mIfS (mOr (mCmp cNe (mFz (mBi isiF (aCons (mVar 1) (aCons (mC (.ty "tuple")) aNil)))) (mFz (mBi isiF (aCons (mVar 0) (aCons (mC (.ty "tuple")) aNil))))) (mCmp cNe (mFz (mBi isiF (aCons (mVar 1) (aCons (mC (.ty "list")) aNil)))) (mFz (mBi isiF (aCons (mVar 0) (aCons (mC (.ty "list")) aNil)))))) (mRet (mC (.bl false))) mNil)
    (mSeq (mIfS (mTru (mFz (mBi isiF (aCons (mVar 1) (aCons (mTup (aCons (mC (.ty "list")) (aCons (mC (.ty "tuple")) aNil))) aNil))))) (mRet (mAndV (mB (mCmp cEq (mFz (mBi lenF (aCons (mVar 0) aNil))) (mFz (mBi lenF (aCons (mVar 1) aNil))))) (mFz (mBi allF (aCons (mFz (mLc [3, 4] (mSrc zipXF (aCons (mVar 0) (aCons (mVar 1) aNil))) (gTupM 2 (gsCons (gSet 3) (gsCons (gSet 4) gsNil))) tYesM (mCalG 2 0 (fun ds _ => ds) q_law_same (aCons (mVar 3) (aCons (mVar 4) aNil)) aNil))) aNil))))) mNil)
    (mSeq (mIfS (mOr (mCmp cNe (mFz (mBi isiF (aCons (mVar 1) (aCons (mC (.ty "bool")) aNil)))) (mFz (mBi isiF (aCons (mVar 0) (aCons (mC (.ty "bool")) aNil))))) (mCmp cNe (mFz (mBi isiF (aCons (mVar 1) (aCons (mC (.ty "str")) aNil)))) (mFz (mBi isiF (aCons (mVar 0) (aCons (mC (.ty "str")) aNil)))))) (mRet (mC (.bl false))) mNil)
    (mRet (mAndV (mB (mCmp cEq (mB (mCmp cIs (mVar 1) (mC .non))) (mB (mCmp cIs (mVar 0) (mC .non))))) (mB (mCmp cEq (mVar 0) (mVar 1)))))))))
noncomputable def r_law_same : Nat → List D → Hd → Res D
  | 0 => runB 5 mBadS
  | n + 1 => runB 5 (b_law_same (r_law_same n))
theorem rok_law_same (T : Txt K w mg) {f_law_same : Addr} {d_law_same : FuncData} (F_law_same : DefX K mg "_law_same" "_law_same" st_law_same [] [] f_law_same d_law_same) (B_law_same_2 : ShB K mg "_law_same" f_law_same d_law_same ["_law_found", "_law_due"] 2 [] (fun ds _ => ds))  : ∀ n : Nat, (FnG P w K mg base (L2.CX P w) (0 + n + 1) f_law_same d_law_same ["_law_found", "_law_due"] (spM ⟨K, mg⟩ (["_law_found", "_law_due"] : List Str).length (r_law_same n)))
  | 0 => fn_okX F_law_same sc_law_same fun cdv A outer s H E hr => ss_bad
  | n + 1 =>
    have O_law_same := rok_law_same T F_law_same B_law_same_2 n
    have C_law_same_2 := B_law_same_2.cal O_law_same
    fn_okX F_law_same sc_law_same fun cdv A outer s H E hr =>
    (s_cons (s_if (t_tru (SO.fz (e_bi call_isiA s_isi T.b_isinstance PyProof.Rows.boot_isinstance (a_cons (e_var 1) (a_cons (e_ty T.b_dict PyProof.Rows.boot_dict) a_nil))))) (s_cons (s_if (t_w (w_or (t_not (t_tru (SO.fz (e_bi call_isiA s_isi T.b_isinstance PyProof.Rows.boot_isinstance (a_cons (e_var 0) (a_cons (e_ty T.b_dict PyProof.Rows.boot_dict) a_nil)))))) (w_or1 (t_ne hr.r (SO.fz (e_bi (cr_srtD rfl) s_srtD T.b_sorted PyProof.Rows.boot_sorted (a_cons (e_var 0) a_nil))) (SO.fz (e_bi (cr_srtD rfl) s_srtD T.b_sorted PyProof.Rows.boot_sorted (a_cons (e_var 1) a_nil))))))) (s_one (s_ret e_bl)) s_nil)
    (s_one (s_ret (SO.fz (e_bi (cr_all rfl) s_all T.b_all PyProof.Rows.boot_all (a_cons (SO.fz (e_lc rfl sc_law_same.nd (i_anyD (e_var 1)) (blkOk_by (own := [("_law_key_now", 2)]) (N := N_law_same) (sc := defScope st_law_same) (by decide +kernel)) (fun _ _ _ _ _ => (g_name 2 sc_law_same.nd)) (fun _ _ _ _ _ => ts_nil) (fun _ _ _ _ _ => (e_calG C_law_same_2 (hr.mono (by omega)) takes0 (a_cons (e_ixD hr.r (e_var 0) (e_var 2)) (a_cons (e_ixD hr.r (e_var 1) (e_var 2)) a_nil)) k_nil)))) a_nil)))))) s_nil)
    (s_cons (s_if (t_w (w_or (t_ne hr.r (SO.fz (e_bi call_isiA s_isi T.b_isinstance PyProof.Rows.boot_isinstance (a_cons (e_var 1) (a_cons (e_ty T.b_tuple PyProof.Rows.boot_tuple) a_nil)))) (SO.fz (e_bi call_isiA s_isi T.b_isinstance PyProof.Rows.boot_isinstance (a_cons (e_var 0) (a_cons (e_ty T.b_tuple PyProof.Rows.boot_tuple) a_nil))))) (w_or1 (t_ne hr.r (SO.fz (e_bi call_isiA s_isi T.b_isinstance PyProof.Rows.boot_isinstance (a_cons (e_var 1) (a_cons (e_ty T.b_list PyProof.Rows.boot_list) a_nil)))) (SO.fz (e_bi call_isiA s_isi T.b_isinstance PyProof.Rows.boot_isinstance (a_cons (e_var 0) (a_cons (e_ty T.b_list PyProof.Rows.boot_list) a_nil)))))))) (s_one (s_ret e_bl)) s_nil)
    (s_cons (s_if (t_tru (SO.fz (e_bi call_isiA s_isi T.b_isinstance PyProof.Rows.boot_isinstance (a_cons (e_var 1) (a_cons (e_tup (a_cons (e_ty T.b_list PyProof.Rows.boot_list) (a_cons (e_ty T.b_tuple PyProof.Rows.boot_tuple) a_nil))) a_nil))))) (s_one (s_ret (e_and (e_eq hr.r (SO.fz (e_bi call_len s_len T.b_len PySem.boot_len (a_cons (e_var 0) a_nil))) (SO.fz (e_bi call_len s_len T.b_len PySem.boot_len (a_cons (e_var 1) a_nil)))) (e_one (SO.fz (e_bi (cr_all rfl) s_all T.b_all PyProof.Rows.boot_all (a_cons (SO.fz (e_lc rfl sc_law_same.nd (i_zipX T.b_zip (a_cons (e_var 0) (a_cons (e_var 1) a_nil))) (blkOk_by (own := [("_law_a", 3), ("_law_b", 4)]) (N := N_law_same) (sc := defScope st_law_same) (by decide +kernel)) (fun _ _ _ _ _ => (g_tup rfl (gs_cons (gn_name 3 sc_law_same.nd) (gs_cons (gn_name 4 sc_law_same.nd) gs_nil)))) (fun _ _ _ _ _ => ts_nil) (fun _ _ _ _ _ => (e_calG C_law_same_2 (hr.mono (by omega)) takes0 (a_cons (e_var 3) (a_cons (e_var 4) a_nil)) k_nil)))) a_nil))))))) s_nil)
    (s_cons (s_if (t_w (w_or (t_ne hr.r (SO.fz (e_bi call_isiA s_isi T.b_isinstance PyProof.Rows.boot_isinstance (a_cons (e_var 1) (a_cons (e_ty T.b_bool PyProof.Rows.boot_bool) a_nil)))) (SO.fz (e_bi call_isiA s_isi T.b_isinstance PyProof.Rows.boot_isinstance (a_cons (e_var 0) (a_cons (e_ty T.b_bool PyProof.Rows.boot_bool) a_nil))))) (w_or1 (t_ne hr.r (SO.fz (e_bi call_isiA s_isi T.b_isinstance PyProof.Rows.boot_isinstance (a_cons (e_var 1) (a_cons (e_ty T.b_str PyProof.Rows.boot_str) a_nil)))) (SO.fz (e_bi call_isiA s_isi T.b_isinstance PyProof.Rows.boot_isinstance (a_cons (e_var 0) (a_cons (e_ty T.b_str PyProof.Rows.boot_str) a_nil)))))))) (s_one (s_ret e_bl)) s_nil)
    (s_one (s_ret (e_and (e_eq hr.r (e_is (e_var 1) e_non) (e_is (e_var 0) e_non)) (e_one (e_eq hr.r (e_var 0) (e_var 1))))))))))
noncomputable abbrev m_law_same := r_law_same 4
theorem ok_law_same (T : Txt K w mg) {f_law_same : Addr} {d_law_same : FuncData} (F_law_same : DefX K mg "_law_same" "_law_same" st_law_same [] [] f_law_same d_law_same) (B_law_same_2 : ShB K mg "_law_same" f_law_same d_law_same ["_law_found", "_law_due"] 2 [] (fun ds _ => ds))  : (FnG P w K mg base (L2.CX P w) 5 f_law_same d_law_same ["_law_found", "_law_due"] (spM ⟨K, mg⟩ (["_law_found", "_law_due"] : List Str).length m_law_same)) := rok_law_same T F_law_same B_law_same_2 4

abbrev st_law_shuffled : Stmt := topS 9
abbrev N_law_shuffled : List Str := ["_law_bag_here", "_law_some", "_law_rest", "_law_one"]
theorem sc_law_shuffled : FnScope N_law_shuffled ["_law_bag_here", "_law_some"] (defScope st_law_shuffled) := ⟨rfl, rfl, rfl, by decide +kernel, rfl, by decide +kernel, by decide +kernel⟩
noncomputable def b_law_shuffled : MS :=
    (mSeq (mSet 2 (mOwn (mBi listDF (aCons (mVar 1) aNil))))
    (mRet (mFz (mLc [3] (mIterD (mVar 1)) (gSet 3) tYesM (mFz (mMeth isOwnL popF (mVar 2) (aCons (mCalG 2 0 (fun ds _ => ds) m_law_get (aCons (mVar 0) (aCons (mFz (mBi lenF (aCons (mVar 2) aNil))) aNil)) aNil) aNil)))))))
noncomputable def m_law_shuffled : List D → Hd → Res D := runB 4 b_law_shuffled
theorem ok_law_shuffled (T : Txt K w mg) {f : Addr} {fd : FuncData} (F_law_shuffled : DefX K mg "_law_shuffled" "_law_shuffled" st_law_shuffled [] [] f fd) (C_law_get_2 : CalG P w K mg base 1 "_law_get" 2 [] (fun ds _ => ds) m_law_get) : FnG P w K mg base (L2.CX P w) 2 f fd ["_law_bag_here", "_law_some"] (spM ⟨K, mg⟩ (["_law_bag_here", "_law_some"] : List Str).length m_law_shuffled) := (fn_okX F_law_shuffled sc_law_shuffled fun cdv A outer s H E hr =>
    (s_cons (s_set 2 (SO.own (e_bt (cr_listD rfl) s_listD T.b_list PyProof.Rows.boot_list (a_cons (e_var 1) a_nil))) sc_law_shuffled.nd)
    (s_one (s_ret (SO.fz (e_lc rfl sc_law_shuffled.nd (i_anyD (e_var 1)) (blkOk_by (own := [("_law_one", 3)]) (N := N_law_shuffled) (sc := defScope st_law_shuffled) (by decide +kernel)) (fun _ _ _ _ _ => (g_name 3 sc_law_shuffled.nd)) (fun _ _ _ _ _ => ts_nil) (fun _ _ _ _ _ => (SO.fz (e_meth PySem.F.plainAttrs_list PySem.F.slot_list_pop PySem.F.type_list_pop mt_popAt isOwnL_ty s_pop (e_var 2) (a_cons (e_calG C_law_get_2 (hr.mono (by decide)) takes0 (a_cons (e_var 0) (a_cons (SO.fz (e_bi call_len s_len T.b_len PySem.boot_len (a_cons (e_var 2) a_nil))) a_nil)) k_nil) a_nil))))))))))

abbrev st_law_word : Stmt := topS 10
abbrev N_law_word : List Str := ["_law_bag_here", "_law_letters", "_law_k"]
theorem sc_law_word : FnScope N_law_word ["_law_bag_here"] (defScope st_law_word) := ⟨rfl, rfl, rfl, by decide +kernel, rfl, by decide +kernel, by decide +kernel⟩
noncomputable def b_law_word : MS :=
    (mSeq (mSet 1 (mC (.str "abcdefghijklmnopqrstuvwxyz")))
    (mRet (mFz (mJoin (mC (.str "")) (mFz (mLc [2] (mSrc (fun _ => range1F) (aCons (mFz (mBin addF (mC (.int 1)) (mCalG 2 0 (fun ds _ => ds) m_law_get (aCons (mVar 0) (aCons (mC (.int 6)) aNil)) aNil))) aNil)) (gSet 2) tYesM (mIxD (mVar 1) (mCalG 2 0 (fun ds _ => ds) m_law_get (aCons (mVar 0) (aCons (mC (.int 26)) aNil)) aNil))))))))
noncomputable def m_law_word : List D → Hd → Res D := runB 3 b_law_word
theorem ok_law_word (T : Txt K w mg) {f : Addr} {fd : FuncData} (F_law_word : DefX K mg "_law_word" "_law_word" st_law_word [] [] f fd) (C_law_get_2 : CalG P w K mg base 1 "_law_get" 2 [] (fun ds _ => ds) m_law_get) : FnG P w K mg base (L2.CX P w) 2 f fd ["_law_bag_here"] (spM ⟨K, mg⟩ (["_law_bag_here"] : List Str).length m_law_word) := (fn_okX F_law_word sc_law_word fun cdv A outer s H E hr =>
    (s_cons (s_set 1 e_str sc_law_word.nd)
    (s_one (s_ret (SO.fz (e_join e_str (SO.fz (e_lc rfl sc_law_word.nd (i_range1 T.b_range (a_cons (SO.fz (o_add e_int (e_calG C_law_get_2 (hr.mono (by decide)) (takes_of rfl rfl rfl rfl) (a_cons (e_var 0) (a_cons e_int a_nil)) k_nil))) a_nil)) (blkOk_by (own := [("_law_k", 2)]) (N := N_law_word) (sc := defScope st_law_word) (by decide +kernel)) (fun _ _ _ _ _ => (g_name 2 sc_law_word.nd)) (fun _ _ _ _ _ => ts_nil) (fun _ _ _ _ _ => (e_ixD hr.r (e_var 1) (e_calG C_law_get_2 (hr.mono (by decide)) takes0 (a_cons (e_var 0) (a_cons e_int a_nil)) k_nil)))))))))))

abbrev st_law_menu : Stmt := topS 11
abbrev N_law_menu : List Str := ["_law_bag_here", "_law_pool"]
theorem sc_law_menu : FnScope N_law_menu ["_law_bag_here"] (defScope st_law_menu) := ⟨rfl, rfl, rfl, by decide +kernel, rfl, by decide +kernel, by decide +kernel⟩
noncomputable def b_law_menu : MS :=
    (mSeq (mSet 1 (mFz (mLst (aCons (mC (.str "a")) (aCons (mC (.str "ab")) (aCons (mC (.str "any")) (aCons (mC (.str "elf")) (aCons (mC (.str "hand")) (aCons (mC (.str "sixsix")) (aCons (mC (.str "zz")) aNil))))))))))
    (mSeq (mIfS (mCmp cEq (mCalG 2 0 (fun ds _ => ds) m_law_get (aCons (mVar 0) (aCons (mC (.int 3)) aNil)) aNil) (mC (.int 0))) (mSet 1 (mFz (mBin addF (mFz (mSl (mVar 1) oNone (oSome (mC (.int 4))))) (mFz (mLst (aCons (mFz (mBin addF (mFz (mSl (mCalG 1 0 (fun ds _ => ds) m_law_word (aCons (mVar 0) aNil) aNil) oNone (oSome (mC (.int 5))))) (mC (.str "x")))) aNil)))))) mNil)
    (mRet (mFz (mSl (mCalG 2 0 (fun ds _ => ds) m_law_shuffled (aCons (mVar 0) (aCons (mVar 1) aNil)) aNil) oNone (oSome (mC (.int 3))))))))
noncomputable def m_law_menu : List D → Hd → Res D := runB 2 b_law_menu
theorem ok_law_menu (T : Txt K w mg) {f : Addr} {fd : FuncData} (F_law_menu : DefX K mg "_law_menu" "_law_menu" st_law_menu [] [] f fd) (C_law_get_2 : CalG P w K mg base 1 "_law_get" 2 [] (fun ds _ => ds) m_law_get) (C_law_shuffled_2 : CalG P w K mg base 2 "_law_shuffled" 2 [] (fun ds _ => ds) m_law_shuffled) (C_law_word_1 : CalG P w K mg base 2 "_law_word" 1 [] (fun ds _ => ds) m_law_word) : FnG P w K mg base (L2.CX P w) 3 f fd ["_law_bag_here"] (spM ⟨K, mg⟩ (["_law_bag_here"] : List Str).length m_law_menu) := (fn_okX F_law_menu sc_law_menu fun cdv A outer s H E hr =>
    (s_cons (s_set 1 (SO.fz (e_lst (a_cons e_str (a_cons e_str (a_cons e_str (a_cons e_str (a_cons e_str (a_cons e_str (a_cons e_str a_nil))))))))) sc_law_menu.nd)
    (s_cons (s_if (t_eq hr.r (e_calG C_law_get_2 (hr.mono (by decide)) (takes_of rfl rfl rfl rfl) (a_cons (e_var 0) (a_cons e_int a_nil)) k_nil) e_int) (s_one (s_set 1 (SO.fz (o_add (SO.fz (e_sl (e_var 1) o_none (o_some e_int))) (SO.fz (e_lst (a_cons (SO.fz (o_add (SO.fz (e_sl (e_calG C_law_word_1 (hr.mono (by decide)) (takes_of rfl rfl rfl rfl) (a_cons (e_var 0) a_nil) k_nil) o_none (o_some e_int))) e_str)) a_nil))))) sc_law_menu.nd)) s_nil)
    (s_one (s_ret (SO.fz (e_sl (e_calG C_law_shuffled_2 (hr.mono (by decide)) (takes_of rfl rfl rfl rfl) (a_cons (e_var 0) (a_cons (e_var 1) a_nil)) k_nil) o_none (o_some e_int))))))))

abbrev st_law_words : Stmt := topS 12
abbrev N_law_words : List Str := ["_law_bag_here", "_law_menu_here", "_law_one"]
theorem sc_law_words : FnScope N_law_words ["_law_bag_here", "_law_menu_here"] (defScope st_law_words) := ⟨rfl, rfl, rfl, by decide +kernel, rfl, by decide +kernel, by decide +kernel⟩
noncomputable def b_law_words : MS :=
    (mRet (mFz (mBi tupleF (aCons (mFz (mSS (mFz (mLc [2] (mIterD (mVar 1)) (gSet 2) (mCmp cEq (mCalG 2 0 (fun ds _ => ds) m_law_get (aCons (mVar 0) (aCons (mC (.int 3)) aNil)) aNil) (mC (.int 0))) (mVar 2))))) aNil))))
noncomputable def m_law_words : List D → Hd → Res D := runB 3 b_law_words
theorem ok_law_words (T : Txt K w mg) {f : Addr} {fd : FuncData} (F_law_words : DefX K mg "_law_words" "_law_words" st_law_words [] [] f fd) (C_law_get_2 : CalG P w K mg base 1 "_law_get" 2 [] (fun ds _ => ds) m_law_get) : FnG P w K mg base (L2.CX P w) 2 f fd ["_law_bag_here", "_law_menu_here"] (spM ⟨K, mg⟩ (["_law_bag_here", "_law_menu_here"] : List Str).length m_law_words) := (fn_okX F_law_words sc_law_words fun cdv A outer s H E hr =>
    (s_one (s_ret (SO.fz (e_bt call_tuple_of s_tuple T.b_tuple PyProof.Rows.boot_tuple (a_cons (SO.fz (e_ss T.b_sorted T.b_set (SO.fz (e_lc rfl sc_law_words.nd (i_anyD (e_var 1)) (blkOk_by (own := [("_law_one", 2)]) (N := N_law_words) (sc := defScope st_law_words) (by decide +kernel)) (fun _ _ _ _ _ => (g_name 2 sc_law_words.nd)) (fun _ _ _ _ _ => (ts_one (t_eq hr.r (e_calG C_law_get_2 (hr.mono (by decide)) takes0 (a_cons (e_var 0) (a_cons e_int a_nil)) k_nil) e_int))) (fun _ _ _ _ _ => (e_var 2)))) rfl)) a_nil))))))

abbrev st_law_cond : Stmt := topS 13
abbrev N_law_cond : List Str := ["_law_bag_here", "_law_menu_here", "_law_levels", "_law_first", "_law_parts", "_law_k", "_law_word_here", "_law_some"]
theorem sc_law_cond : FnScope N_law_cond ["_law_bag_here", "_law_menu_here", "_law_levels"] (defScope st_law_cond) := ⟨rfl, rfl, rfl, by decide +kernel, rfl, by decide +kernel, by decide +kernel⟩
noncomputable def b_law_cond (q_law_cond : List D → Hd → Res D) : MS :=
    (mSeq (mIfS (mAnd (mCmp cGt (mVar 2) (mC (.int 1))) (mCmp cEq (mCalG 2 0 (fun ds _ => ds) m_law_get (aCons (mVar 0) (aCons (mC (.int 4)) aNil)) aNil) (mC (.int 0)))) (mSeq (mSet 3 (mCalG 2 0 (fun ds _ => ds) m_law_pick (aCons (mVar 0) (aCons (mFz (mLst (aCons (mC (.str "not")) (aCons (mC (.str "both")) (aCons (mC (.str "either")) aNil))))) aNil)) aNil))
    (mSeq (mSet 4 (mFz (mLc [5] (mSrc (fun _ => range1F) (aCons (mC (.int 2)) aNil)) (gSet 5) tYesM (mCalG 3 0 (fun ds _ => ds) q_law_cond (aCons (mVar 0) (aCons (mVar 1) (aCons (mFz (mBin subF (mVar 2) (mC (.int 1)))) aNil))) aNil))))
    (mRet (mFz (mBin addF (mTup (aCons (mVar 3) aNil)) (mFz (mBi tupleF (aCons (mFz (mSl (mVar 4) (oSome (mFz (mBi intF (aCons (mB (mCmp cEq (mVar 3) (mC (.str "not")))) aNil)))) oNone)) aNil)))))))) mNil)
    (mSeq (mSet 6 (mCalG 2 0 (fun ds _ => ds) m_law_pick (aCons (mVar 0) (aCons (mVar 1) aNil)) aNil))
    (mSeq (mSet 7 (mFz (mLst (aCons (mTup (aCons (mC (.str "any")) aNil)) (aCons (mTup (aCons (mC (.str "self")) aNil)) (aCons (mTup (aCons (mC (.str "other")) aNil)) (aCons (mTup (aCons (mC (.str "mine")) aNil)) (aCons (mTup (aCons (mC (.str "kind")) (aCons (mVar 6) aNil))) (aCons (mTup (aCons (mC (.str "kind")) (aCons (mVar 6) aNil))) (aCons (mTup (aCons (mC (.str "colour")) (aCons (mVar 6) aNil))) aNil))))))))))
    (mRet (mCalG 2 0 (fun ds _ => ds) m_law_pick (aCons (mVar 0) (aCons (mFz (mBin addF (mVar 7) (mFz (mLst (aCons (mTup (aCons (mC (.str "least")) (aCons (mFz (mBin subF (mCalG 2 0 (fun ds _ => ds) m_law_get (aCons (mVar 0) (aCons (mC (.int 6)) aNil)) aNil) (mC (.int 1)))) aNil))) aNil))))) aNil)) aNil)))))
noncomputable def r_law_cond : Nat → List D → Hd → Res D
  | 0 => runB 8 mBadS
  | n + 1 => runB 8 (b_law_cond (r_law_cond n))
theorem rok_law_cond (T : Txt K w mg) {f_law_cond : Addr} {d_law_cond : FuncData} (F_law_cond : DefX K mg "_law_cond" "_law_cond" st_law_cond [] [] f_law_cond d_law_cond) (B_law_cond_3 : ShB K mg "_law_cond" f_law_cond d_law_cond ["_law_bag_here", "_law_menu_here", "_law_levels"] 3 [] (fun ds _ => ds)) (C_law_get_2 : CalG P w K mg base 1 "_law_get" 2 [] (fun ds _ => ds) m_law_get) (C_law_pick_2 : CalG P w K mg base 2 "_law_pick" 2 [] (fun ds _ => ds) m_law_pick) : ∀ n : Nat, (FnG P w K mg base (L2.CX P w) (2 + n + 1) f_law_cond d_law_cond ["_law_bag_here", "_law_menu_here", "_law_levels"] (spM ⟨K, mg⟩ (["_law_bag_here", "_law_menu_here", "_law_levels"] : List Str).length (r_law_cond n)))
  | 0 => fn_okX F_law_cond sc_law_cond fun cdv A outer s H E hr => ss_bad
  | n + 1 =>
    have O_law_cond := rok_law_cond T F_law_cond B_law_cond_3 C_law_get_2 C_law_pick_2 n
    have C_law_cond_3 := B_law_cond_3.cal O_law_cond
    fn_okX F_law_cond sc_law_cond fun cdv A outer s H E hr =>
    (s_cons (s_if (t_w (w_and (t_gt (e_var 2) e_int) (w_and1 (t_eq hr.r (e_calG C_law_get_2 (hr.mono (by omega)) (takes_of rfl rfl rfl rfl) (a_cons (e_var 0) (a_cons e_int a_nil)) k_nil) e_int)))) (s_cons (s_set 3 (e_calG C_law_pick_2 (hr.mono (by omega)) (takes_of rfl rfl rfl rfl) (a_cons (e_var 0) (a_cons (SO.fz (e_lst (a_cons e_str (a_cons e_str (a_cons e_str a_nil))))) a_nil)) k_nil) sc_law_cond.nd)
    (s_cons (s_lcFz 4 rfl sc_law_cond.nd (i_range1 T.b_range (a_cons e_int a_nil)) (blkOk_by (own := [("_law_k", 5)]) (N := N_law_cond) (sc := defScope st_law_cond) (by decide +kernel)) (fun _ _ _ _ _ => (g_name 5 sc_law_cond.nd)) (fun _ _ _ _ _ => ts_nil) (fun _ _ _ _ _ => (e_calG C_law_cond_3 (hr.mono (by omega)) takes0 (a_cons (e_var 0) (a_cons (e_var 1) (a_cons (SO.fz (o_sub (e_var 2) e_int)) a_nil))) k_nil)))
    (s_one (s_ret (SO.fz (o_add (e_tup (a_cons (e_var 3) a_nil)) (SO.fz (e_bt call_tuple_of s_tuple T.b_tuple PyProof.Rows.boot_tuple (a_cons (SO.fz (e_sl (e_var 4) (o_some (SO.fz (e_bt call_int1 s_int T.b_int PyProof.Rows.boot_int (a_cons (e_eq hr.r (e_var 3) e_str) a_nil)))) o_none)) a_nil))))))))) s_nil)
    (s_cons (s_set 6 (e_calG C_law_pick_2 (hr.mono (by omega)) (takes_of rfl rfl rfl rfl) (a_cons (e_var 0) (a_cons (e_var 1) a_nil)) k_nil) sc_law_cond.nd)
    (s_cons (s_set 7 (SO.fz (e_lst (a_cons (e_tup (a_cons e_str a_nil)) (a_cons (e_tup (a_cons e_str a_nil)) (a_cons (e_tup (a_cons e_str a_nil)) (a_cons (e_tup (a_cons e_str a_nil)) (a_cons (e_tup (a_cons e_str (a_cons (e_var 6) a_nil))) (a_cons (e_tup (a_cons e_str (a_cons (e_var 6) a_nil))) (a_cons (e_tup (a_cons e_str (a_cons (e_var 6) a_nil))) a_nil))))))))) sc_law_cond.nd)
    (s_one (s_ret (e_calG C_law_pick_2 (hr.mono (by omega)) (takes_of rfl rfl rfl rfl) (a_cons (e_var 0) (a_cons (SO.fz (o_add (e_var 7) (SO.fz (e_lst (a_cons (e_tup (a_cons e_str (a_cons (SO.fz (o_sub (e_calG C_law_get_2 (hr.mono (by omega)) (takes_of rfl rfl rfl rfl) (a_cons (e_var 0) (a_cons e_int a_nil)) k_nil) e_int)) a_nil))) a_nil))))) a_nil)) k_nil))))))
noncomputable abbrev m_law_cond := r_law_cond 5
theorem ok_law_cond (T : Txt K w mg) {f_law_cond : Addr} {d_law_cond : FuncData} (F_law_cond : DefX K mg "_law_cond" "_law_cond" st_law_cond [] [] f_law_cond d_law_cond) (B_law_cond_3 : ShB K mg "_law_cond" f_law_cond d_law_cond ["_law_bag_here", "_law_menu_here", "_law_levels"] 3 [] (fun ds _ => ds)) (C_law_get_2 : CalG P w K mg base 1 "_law_get" 2 [] (fun ds _ => ds) m_law_get) (C_law_pick_2 : CalG P w K mg base 2 "_law_pick" 2 [] (fun ds _ => ds) m_law_pick) : (FnG P w K mg base (L2.CX P w) 8 f_law_cond d_law_cond ["_law_bag_here", "_law_menu_here", "_law_levels"] (spM ⟨K, mg⟩ (["_law_bag_here", "_law_menu_here", "_law_levels"] : List Str).length m_law_cond)) := rok_law_cond T F_law_cond B_law_cond_3 C_law_get_2 C_law_pick_2 5

abbrev st_law_change : Stmt := topS 14
abbrev N_law_change : List Str := ["_law_bag_here", "_law_menu_here", "_law_layer", "_law_one", "_law_other", "_law_few", "_law_less_now", "_law_some"]
theorem sc_law_change : FnScope N_law_change ["_law_bag_here", "_law_menu_here", "_law_layer"] (defScope st_law_change) := ⟨rfl, rfl, rfl, by decide +kernel, rfl, by decide +kernel, by decide +kernel⟩
noncomputable def b_law_change : MS :=
    (mSeq (mAsg (mTup (aCons (mCalG 2 0 (fun ds _ => ds) m_law_pick (aCons (mVar 0) (aCons (mVar 1) aNil)) aNil) (aCons (mCalG 2 0 (fun ds _ => ds) m_law_pick (aCons (mVar 0) (aCons (mVar 1) aNil)) aNil) (aCons (mCalG 2 0 (fun ds _ => ds) m_law_get (aCons (mVar 0) (aCons (mC (.int 5)) aNil)) aNil) (aCons (mFz (mBin subF (mCalG 2 0 (fun ds _ => ds) m_law_get (aCons (mVar 0) (aCons (mC (.int 4)) aNil)) aNil) (mC (.int 1)))) aNil))))) (gTupM 4 (gsCons (gSet 3) (gsCons (gSet 4) (gsCons (gSet 5) (gsCons (gSet 6) gsNil))))))
    (mSeq (mSet 7 (mFz (mLst (aCons (mTup (aCons (mC (.str "hand")) (aCons (mFz (mBin modF (mVar 5) (mC (.int 2)))) aNil))) (aCons (mTup (aCons (mC (.str "ours")) aNil)) aNil)))))
    (mSeq (mIfS (mCmp cEq (mVar 2) (mC (.int 3))) (mSet 7 (mFz (mLst (aCons (mTup (aCons (mC (.str "read")) (aCons (mVar 3) (aCons (mVar 4) aNil)))) aNil)))) (mIfS (mCmp cInD (mVar 2) (mTup (aCons (mC (.int 4)) (aCons (mC (.int 5)) aNil)))) (mSet 7 (mFz (mLst (aCons (mTup (aCons (mIxD (mFz (mLst (aCons (mC (.str "be")) (aCons (mC (.str "hue")) aNil)))) (mFz (mBin subF (mVar 2) (mC (.int 4))))) (aCons (mCalG 2 0 (fun ds _ => ds) m_law_words (aCons (mVar 0) (aCons (mVar 1) aNil)) aNil) aNil))) (aCons (mTup (aCons (mIxD (mFz (mLst (aCons (mC (.str "also")) (aCons (mC (.str "tint")) aNil)))) (mFz (mBin subF (mVar 2) (mC (.int 4))))) (aCons (mVar 3) aNil))) aNil))))) (mIfS (mCmp cEq (mVar 2) (mC (.int 8))) (mSet 7 (mFz (mLst (aCons (mTup (aCons (mC (.str "more")) (aCons (mVar 6) (aCons (mFz (mBin subF (mVar 5) (mC (.int 2)))) aNil)))) (aCons (mTup (aCons (mC (.str "each")) (aCons (mCalG 3 0 (fun ds _ => ds) m_law_cond (aCons (mVar 0) (aCons (mVar 1) (aCons (mC (.int 2)) aNil))) aNil) (aCons (mVar 6) (aCons (mFz (mBin subF (mVar 5) (mC (.int 2)))) aNil))))) aNil))))) (mIfS (mCmp cGt (mVar 2) (mC (.int 5))) (mSet 7 (mFz (mLst (aCons (mIxD (mFz (mLst (aCons (mTup (aCons (mC (.str "bare")) aNil)) (aCons (mTup (aCons (mC (.str "size")) (aCons (mVar 5) (aCons (mFz (mBin addF (mVar 6) (mC (.int 2)))) aNil)))) (aCons (mTup aNil) (aCons (mTup (aCons (mC (.str "turn")) aNil)) aNil)))))) (mFz (mBin subF (mVar 2) (mC (.int 6))))) aNil)))) mNil))))
    (mRet (mCalG 2 0 (fun ds _ => ds) m_law_pick (aCons (mVar 0) (aCons (mVar 7) aNil)) aNil)))))
noncomputable def m_law_change : List D → Hd → Res D := runB 8 b_law_change
theorem ok_law_change (T : Txt K w mg) {f : Addr} {fd : FuncData} (F_law_change : DefX K mg "_law_change" "_law_change" st_law_change [] [] f fd) (C_law_get_2 : CalG P w K mg base 1 "_law_get" 2 [] (fun ds _ => ds) m_law_get) (C_law_pick_2 : CalG P w K mg base 2 "_law_pick" 2 [] (fun ds _ => ds) m_law_pick) (C_law_words_2 : CalG P w K mg base 2 "_law_words" 2 [] (fun ds _ => ds) m_law_words) (C_law_cond_3 : CalG P w K mg base 8 "_law_cond" 3 [] (fun ds _ => ds) m_law_cond) : FnG P w K mg base (L2.CX P w) 9 f fd ["_law_bag_here", "_law_menu_here", "_law_layer"] (spM ⟨K, mg⟩ (["_law_bag_here", "_law_menu_here", "_law_layer"] : List Str).length m_law_change) := (fn_okX F_law_change sc_law_change fun cdv A outer s H E hr =>
    (s_cons (s_asg (e_tup (a_cons (e_calG C_law_pick_2 (hr.mono (by decide)) (takes_of rfl rfl rfl rfl) (a_cons (e_var 0) (a_cons (e_var 1) a_nil)) k_nil) (a_cons (e_calG C_law_pick_2 (hr.mono (by decide)) (takes_of rfl rfl rfl rfl) (a_cons (e_var 0) (a_cons (e_var 1) a_nil)) k_nil) (a_cons (e_calG C_law_get_2 (hr.mono (by decide)) (takes_of rfl rfl rfl rfl) (a_cons (e_var 0) (a_cons e_int a_nil)) k_nil) (a_cons (SO.fz (o_sub (e_calG C_law_get_2 (hr.mono (by decide)) (takes_of rfl rfl rfl rfl) (a_cons (e_var 0) (a_cons e_int a_nil)) k_nil) e_int)) a_nil))))) (g_tup rfl (gs_cons (gn_name 3 sc_law_change.nd) (gs_cons (gn_name 4 sc_law_change.nd) (gs_cons (gn_name 5 sc_law_change.nd) (gs_cons (gn_name 6 sc_law_change.nd) gs_nil))))))
    (s_cons (s_set 7 (SO.fz (e_lst (a_cons (e_tup (a_cons e_str (a_cons (SO.fz (o_mod (e_var 5) e_int)) a_nil))) (a_cons (e_tup (a_cons e_str a_nil)) a_nil)))) sc_law_change.nd)
    (s_cons (s_if (t_eq hr.r (e_var 2) e_int) (s_one (s_set 7 (SO.fz (e_lst (a_cons (e_tup (a_cons e_str (a_cons (e_var 3) (a_cons (e_var 4) a_nil)))) a_nil))) sc_law_change.nd)) (s_one (s_if (t_inDD hr.r (e_var 2) (e_tup (a_cons e_int (a_cons e_int a_nil)))) (s_one (s_set 7 (SO.fz (e_lst (a_cons (e_tup (a_cons (e_ixD hr.r (SO.fz (e_lst (a_cons e_str (a_cons e_str a_nil)))) (SO.fz (o_sub (e_var 2) e_int))) (a_cons (e_calG C_law_words_2 (hr.mono (by decide)) (takes_of rfl rfl rfl rfl) (a_cons (e_var 0) (a_cons (e_var 1) a_nil)) k_nil) a_nil))) (a_cons (e_tup (a_cons (e_ixD hr.r (SO.fz (e_lst (a_cons e_str (a_cons e_str a_nil)))) (SO.fz (o_sub (e_var 2) e_int))) (a_cons (e_var 3) a_nil))) a_nil)))) sc_law_change.nd)) (s_one (s_if (t_eq hr.r (e_var 2) e_int) (s_one (s_set 7 (SO.fz (e_lst (a_cons (e_tup (a_cons e_str (a_cons (e_var 6) (a_cons (SO.fz (o_sub (e_var 5) e_int)) a_nil)))) (a_cons (e_tup (a_cons e_str (a_cons (e_calG C_law_cond_3 (hr.mono (by decide)) (takes_of rfl rfl rfl rfl) (a_cons (e_var 0) (a_cons (e_var 1) (a_cons e_int a_nil))) k_nil) (a_cons (e_var 6) (a_cons (SO.fz (o_sub (e_var 5) e_int)) a_nil))))) a_nil)))) sc_law_change.nd)) (s_one (s_if (t_gt (e_var 2) e_int) (s_one (s_set 7 (SO.fz (e_lst (a_cons (e_ixD hr.r (SO.fz (e_lst (a_cons (e_tup (a_cons e_str a_nil)) (a_cons (e_tup (a_cons e_str (a_cons (e_var 5) (a_cons (SO.fz (o_add (e_var 6) e_int)) a_nil)))) (a_cons (e_tup a_nil) (a_cons (e_tup (a_cons e_str a_nil)) a_nil)))))) (SO.fz (o_sub (e_var 2) e_int))) a_nil))) sc_law_change.nd)) s_nil)))))))
    (s_one (s_ret (e_calG C_law_pick_2 (hr.mono (by decide)) (takes_of rfl rfl rfl rfl) (a_cons (e_var 0) (a_cons (e_var 7) a_nil)) k_nil)))))))

abbrev st_law_way : Stmt := topS 16
abbrev N_law_way : List Str := ["_law_bag_here", "_law_word_here", "_law_some", "_law_first"]
theorem sc_law_way : FnScope N_law_way ["_law_bag_here", "_law_word_here"] (defScope st_law_way) := ⟨rfl, rfl, rfl, by decide +kernel, rfl, by decide +kernel, by decide +kernel⟩
noncomputable def b_law_way : MS :=
    (mSeq (mSet 2 (mOwn (mDisp (pCons (mC (.str "go")) (mFz (mLst (aCons (mC (.str "none")) (aCons (mC (.str "aside")) (aCons (mC (.str "mark")) (aCons (mC (.str "strike")) aNil)))))) (pCons (mC (.str "fall")) (mFz (mLst (aCons (mC (.str "aside")) aNil))) pNil)))))
    (mSeq (mDPut (mVar 2) (mC (.str "strike")) (mFz (mLst (aCons (mC (.str "none")) (aCons (mC (.str "twice")) (aCons (mC (.str "less")) (aCons (mC (.str "mark")) aNil)))))))
    (mSeq (mSet 3 (mCalG 2 0 (fun ds _ => ds) m_law_pick (aCons (mVar 0) (aCons (mGet2 (mVar 2) (mVar 1) (mFz (mLst (aCons (mC (.str "none")) (aCons (mC (.str "twice")) (aCons (mC (.str "less")) aNil)))))) aNil)) aNil))
    (mRet (mIf (mCmp cInD (mVar 3) (mTup (aCons (mC (.str "less")) (aCons (mC (.str "mark")) (aCons (mC (.str "strike")) aNil))))) (mTup (aCons (mVar 3) (aCons (mFz (mBin addF (mC (.int 1)) (mCalG 2 0 (fun ds _ => ds) m_law_get (aCons (mVar 0) (aCons (mC (.int 4)) aNil)) aNil))) aNil))) (mTup (aCons (mVar 3) aNil)))))))
noncomputable def m_law_way : List D → Hd → Res D := runB 4 b_law_way
theorem ok_law_way (T : Txt K w mg) {f : Addr} {fd : FuncData} (F_law_way : DefX K mg "_law_way" "_law_way" st_law_way [] [] f fd) (C_law_get_2 : CalG P w K mg base 1 "_law_get" 2 [] (fun ds _ => ds) m_law_get) (C_law_pick_2 : CalG P w K mg base 2 "_law_pick" 2 [] (fun ds _ => ds) m_law_pick) : FnG P w K mg base (L2.CX P w) 3 f fd ["_law_bag_here", "_law_word_here"] (spM ⟨K, mg⟩ (["_law_bag_here", "_law_word_here"] : List Str).length m_law_way) := (fn_okX F_law_way sc_law_way fun cdv A outer s H E hr =>
    (s_cons (s_set 2 (SO.own (e_disp (sp_cons e_str (SO.fz (e_lst (a_cons e_str (a_cons e_str (a_cons e_str (a_cons e_str a_nil)))))) (sp_cons e_str (SO.fz (e_lst (a_cons e_str a_nil))) sp_nil)))) sc_law_way.nd)
    (s_cons (s_dput hr.r (e_var 2) e_str (SO.fz (e_lst (a_cons e_str (a_cons e_str (a_cons e_str (a_cons e_str a_nil)))))))
    (s_cons (s_set 3 (e_calG C_law_pick_2 (hr.mono (by decide)) (takes_of rfl rfl rfl rfl) (a_cons (e_var 0) (a_cons (e_get2 hr.r (e_var 2) (e_var 1) (SO.fz (e_lst (a_cons e_str (a_cons e_str (a_cons e_str a_nil)))))) a_nil)) k_nil) sc_law_way.nd)
    (s_one (s_ret (e_if (t_inDD hr.r (e_var 3) (e_tup (a_cons e_str (a_cons e_str (a_cons e_str a_nil))))) (e_tup (a_cons (e_var 3) (a_cons (SO.fz (o_add e_int (e_calG C_law_get_2 (hr.mono (by decide)) (takes_of rfl rfl rfl rfl) (a_cons (e_var 0) (a_cons e_int a_nil)) k_nil))) a_nil))) (e_tup (a_cons (e_var 3) a_nil)))))))))

abbrev st_law_act : Stmt := topS 17
abbrev N_law_act : List Str := ["_law_bag_here", "_law_menu_here", "_law_first", "_law_whom_here"]
theorem sc_law_act : FnScope N_law_act ["_law_bag_here", "_law_menu_here"] (defScope st_law_act) := ⟨rfl, rfl, rfl, by decide +kernel, rfl, by decide +kernel, by decide +kernel⟩
noncomputable def b_law_act : MS :=
    (mSeq (mSet 2 (mCalG 2 0 (fun ds _ => ds) m_law_pick (aCons (mVar 0) (aCons (mFz (mLst (aCons (mC (.str "strike")) (aCons (mC (.str "strike")) (aCons (mC (.str "mark")) (aCons (mC (.str "go")) (aCons (mC (.str "last")) aNil))))))) aNil)) aNil))
    (mSeq (mSet 3 (mCalG 2 0 (fun ds _ => ds) m_law_pick (aCons (mVar 0) (aCons (mFz (mLst (aCons (mTup (aCons (mC (.str "it")) aNil)) (aCons (mCalG 3 0 (fun ds _ => ds) m_law_cond (aCons (mVar 0) (aCons (mVar 1) (aCons (mC (.int 2)) aNil))) aNil) (aCons (mTup (aCons (mC (.str "self")) aNil)) aNil))))) aNil)) aNil))
    (mSeq (mIfS (mCmp cEq (mVar 2) (mC (.str "last"))) (mRet (mTup (aCons (mVar 2) (aCons (mCalG 3 0 (fun ds _ => ds) m_law_cond (aCons (mVar 0) (aCons (mVar 1) (aCons (mC (.int 2)) aNil))) aNil) (aCons (mCalG 3 0 (fun ds _ => ds) m_law_change (aCons (mVar 0) (aCons (mVar 1) (aCons (mCalG 2 0 (fun ds _ => ds) m_law_pick (aCons (mVar 0) (aCons (mFz (mLst (aCons (mC (.int 2)) (aCons (mC (.int 3)) (aCons (mC (.int 4)) (aCons (mC (.int 6)) (aCons (mC (.int 7)) (aCons (mC (.int 8)) (aCons (mC (.int 9)) aNil))))))))) aNil)) aNil) aNil))) aNil) aNil))))) mNil)
    (mRet (mIf (mCmp cEq (mVar 2) (mC (.str "go"))) (mTup (aCons (mVar 2) (aCons (mVar 3) aNil))) (mTup (aCons (mVar 2) (aCons (mVar 3) (aCons (mFz (mBin addF (mC (.int 1)) (mCalG 2 0 (fun ds _ => ds) m_law_get (aCons (mVar 0) (aCons (mC (.int 3)) aNil)) aNil))) aNil)))))))))
noncomputable def m_law_act : List D → Hd → Res D := runB 4 b_law_act
theorem ok_law_act (T : Txt K w mg) {f : Addr} {fd : FuncData} (F_law_act : DefX K mg "_law_act" "_law_act" st_law_act [] [] f fd) (C_law_get_2 : CalG P w K mg base 1 "_law_get" 2 [] (fun ds _ => ds) m_law_get) (C_law_pick_2 : CalG P w K mg base 2 "_law_pick" 2 [] (fun ds _ => ds) m_law_pick) (C_law_cond_3 : CalG P w K mg base 8 "_law_cond" 3 [] (fun ds _ => ds) m_law_cond) (C_law_change_3 : CalG P w K mg base 9 "_law_change" 3 [] (fun ds _ => ds) m_law_change) : FnG P w K mg base (L2.CX P w) 10 f fd ["_law_bag_here", "_law_menu_here"] (spM ⟨K, mg⟩ (["_law_bag_here", "_law_menu_here"] : List Str).length m_law_act) := (fn_okX F_law_act sc_law_act fun cdv A outer s H E hr =>
    (s_cons (s_set 2 (e_calG C_law_pick_2 (hr.mono (by decide)) (takes_of rfl rfl rfl rfl) (a_cons (e_var 0) (a_cons (SO.fz (e_lst (a_cons e_str (a_cons e_str (a_cons e_str (a_cons e_str (a_cons e_str a_nil))))))) a_nil)) k_nil) sc_law_act.nd)
    (s_cons (s_set 3 (e_calG C_law_pick_2 (hr.mono (by decide)) (takes_of rfl rfl rfl rfl) (a_cons (e_var 0) (a_cons (SO.fz (e_lst (a_cons (e_tup (a_cons e_str a_nil)) (a_cons (e_calG C_law_cond_3 (hr.mono (by decide)) (takes_of rfl rfl rfl rfl) (a_cons (e_var 0) (a_cons (e_var 1) (a_cons e_int a_nil))) k_nil) (a_cons (e_tup (a_cons e_str a_nil)) a_nil))))) a_nil)) k_nil) sc_law_act.nd)
    (s_cons (s_if (t_eq hr.r (e_var 2) e_str) (s_one (s_ret (e_tup (a_cons (e_var 2) (a_cons (e_calG C_law_cond_3 (hr.mono (by decide)) (takes_of rfl rfl rfl rfl) (a_cons (e_var 0) (a_cons (e_var 1) (a_cons e_int a_nil))) k_nil) (a_cons (e_calG C_law_change_3 (hr.mono (by decide)) (takes_of rfl rfl rfl rfl) (a_cons (e_var 0) (a_cons (e_var 1) (a_cons (e_calG C_law_pick_2 (hr.mono (by decide)) (takes_of rfl rfl rfl rfl) (a_cons (e_var 0) (a_cons (SO.fz (e_lst (a_cons e_int (a_cons e_int (a_cons e_int (a_cons e_int (a_cons e_int (a_cons e_int (a_cons e_int a_nil))))))))) a_nil)) k_nil) a_nil))) k_nil) a_nil)))))) s_nil)
    (s_one (s_ret (e_if (t_eq hr.r (e_var 2) e_str) (e_tup (a_cons (e_var 2) (a_cons (e_var 3) a_nil))) (e_tup (a_cons (e_var 2) (a_cons (e_var 3) (a_cons (SO.fz (o_add e_int (e_calG C_law_get_2 (hr.mono (by decide)) (takes_of rfl rfl rfl rfl) (a_cons (e_var 0) (a_cons e_int a_nil)) k_nil))) a_nil)))))))))))

abbrev st_law_stand : Stmt := topS 15
abbrev N_law_stand : List Str := ["_law_bag_here", "_law_menu_here", "_law_nested", "_law_some", "_law_layer", "_law_k"]
theorem sc_law_stand : FnScope N_law_stand ["_law_bag_here", "_law_menu_here", "_law_nested"] (defScope st_law_stand) := ⟨rfl, rfl, rfl, by decide +kernel, rfl, by decide +kernel, by decide +kernel⟩
noncomputable def b_law_stand (q_law_stand : List D → Hd → Res D) (q_law_writ : List D → Hd → Res D) : MS :=
    (mSeq (mSet 3 (mOwn (mLst aNil)))
    (mSeq (mFor (mIterD (mFz (mSS (mFz (mLc [5] (mSrc (fun _ => range1F) (aCons (mFz (mBin addF (mC (.int 1)) (mCalG 2 0 (fun ds _ => ds) m_law_get (aCons (mVar 0) (aCons (mC (.int 3)) aNil)) aNil))) aNil)) (gSet 5) tYesM (mCalG 2 0 (fun ds _ => ds) m_law_pick (aCons (mVar 0) (aCons (mFz (mLst (aCons (mC (.int 2)) (aCons (mC (.int 3)) (aCons (mC (.int 4)) (aCons (mC (.int 4)) (aCons (mC (.int 5)) (aCons (mC (.int 6)) (aCons (mC (.int 7)) (aCons (mC (.int 8)) (aCons (mC (.int 9)) aNil))))))))))) aNil)) aNil)))))) (gSet 4) (mSeq (mExpr (mFz (mMeth isOwnL appF (mVar 3) (aCons (mCalG 3 0 (fun ds _ => ds) m_law_change (aCons (mVar 0) (aCons (mVar 1) (aCons (mVar 4) aNil))) aNil) aNil))))
    (mIfS (mAnd (mCmp cEq (mVar 4) (mC (.int 6))) (mAnd (mTru (mVar 2)) (mAnd (mCmp cGt (mCalG 2 0 (fun ds _ => ds) m_law_get (aCons (mVar 0) (aCons (mC (.int 3)) aNil)) aNil) (mC (.int 0))) (mCmp cLt (mIxD (mVar 0) (mC (.int 5))) (mC (.int 3)))))) (mSeq (mAsg (mFz (mBin addF (mIxD (mVar 0) (mC (.int 5))) (mC (.int 1)))) (gSub (mVar 0) (mC (.int 5))))
    (mAsg (mTup (aCons (mC (.str "gain")) (aCons (mCalG 3 0 (fun ds _ => ds) q_law_writ (aCons (mVar 0) (aCons (mVar 1) (aCons (mC (.bl false)) aNil))) aNil) aNil))) (gSub (mVar 3) (mNeg (mC (.int 1)))))) mNil)))
    (mRet (mTup (aCons (mC (.str "stand")) (aCons (mCalG 3 0 (fun ds _ => ds) m_law_cond (aCons (mVar 0) (aCons (mVar 1) (aCons (mC (.int 2)) aNil))) aNil) (aCons (mFz (mBi tupleF (aCons (mVar 3) aNil))) aNil)))))))

abbrev st_law_writ : Stmt := topS 18
abbrev N_law_writ : List Str := ["_law_bag_here", "_law_menu_here", "_law_nested", "_law_way_here", "_law_word_here"]
theorem sc_law_writ : FnScope N_law_writ ["_law_bag_here", "_law_menu_here", "_law_nested"] (defScope st_law_writ) := ⟨rfl, rfl, rfl, by decide +kernel, rfl, by decide +kernel, by decide +kernel⟩
noncomputable def b_law_writ (q_law_stand : List D → Hd → Res D) (q_law_writ : List D → Hd → Res D) : MS :=
    (mSeq (mSet 3 (mCalG 2 0 (fun ds _ => ds) m_law_get (aCons (mVar 0) (aCons (mC (.int 6)) aNil)) aNil))
    (mSeq (mIfS (mCmp cLt (mVar 3) (mC (.int 4))) (mRet (mCalG 3 0 (fun ds _ => ds) q_law_stand (aCons (mVar 0) (aCons (mVar 1) (aCons (mVar 2) aNil))) aNil)) mNil)
    (mSeq (mSet 4 (mCalG 2 0 (fun ds _ => ds) m_law_pick (aCons (mVar 0) (aCons (mIxD (mFz (mLst (aCons (mFz (mLst (aCons (mC (.str "go")) (aCons (mC (.str "fall")) (aCons (mC (.str "strike")) (aCons (mC (.str "mark")) aNil)))))) (aCons (mFz (mLst (aCons (mC (.str "come")) (aCons (mC (.str "go")) (aCons (mC (.str "strike")) (aCons (mC (.str "mark")) aNil)))))) aNil)))) (mFz (mBin subF (mVar 3) (mC (.int 4))))) aNil)) aNil))
    (mSeq (mIfS (mCmp cEq (mVar 3) (mC (.int 4))) (mRet (mTup (aCons (mC (.str "instead")) (aCons (mVar 4) (aCons (mCalG 3 0 (fun ds _ => ds) m_law_cond (aCons (mVar 0) (aCons (mVar 1) (aCons (mC (.int 2)) aNil))) aNil) (aCons (mCalG 2 0 (fun ds _ => ds) m_law_way (aCons (mVar 0) (aCons (mVar 4) aNil)) aNil) aNil)))))) mNil)
    (mRet (mTup (aCons (mC (.str "when")) (aCons (mVar 4) (aCons (mCalG 3 0 (fun ds _ => ds) m_law_cond (aCons (mVar 0) (aCons (mVar 1) (aCons (mC (.int 2)) aNil))) aNil) (aCons (mCalG 2 0 (fun ds _ => ds) m_law_act (aCons (mVar 0) (aCons (mVar 1) aNil)) aNil) aNil))))))))))
mutual
noncomputable def r_law_stand : Nat → List D → Hd → Res D
  | 0 => runB 6 mBadS
  | n + 1 => runB 6 (b_law_stand (r_law_stand n) (r_law_writ n))
noncomputable def r_law_writ : Nat → List D → Hd → Res D
  | 0 => runB 5 mBadS
  | n + 1 => runB 5 (b_law_writ (r_law_stand n) (r_law_writ n))
end
theorem rok_law_stand (T : Txt K w mg) {f_law_stand : Addr} {d_law_stand : FuncData} (F_law_stand : DefX K mg "_law_stand" "_law_stand" st_law_stand [] [] f_law_stand d_law_stand) {f_law_writ : Addr} {d_law_writ : FuncData} (F_law_writ : DefX K mg "_law_writ" "_law_writ" st_law_writ [] [] f_law_writ d_law_writ) (B_law_stand_3 : ShB K mg "_law_stand" f_law_stand d_law_stand ["_law_bag_here", "_law_menu_here", "_law_nested"] 3 [] (fun ds _ => ds)) (B_law_writ_3 : ShB K mg "_law_writ" f_law_writ d_law_writ ["_law_bag_here", "_law_menu_here", "_law_nested"] 3 [] (fun ds _ => ds)) (C_law_get_2 : CalG P w K mg base 1 "_law_get" 2 [] (fun ds _ => ds) m_law_get) (C_law_pick_2 : CalG P w K mg base 2 "_law_pick" 2 [] (fun ds _ => ds) m_law_pick) (C_law_cond_3 : CalG P w K mg base 8 "_law_cond" 3 [] (fun ds _ => ds) m_law_cond) (C_law_change_3 : CalG P w K mg base 9 "_law_change" 3 [] (fun ds _ => ds) m_law_change) (C_law_way_2 : CalG P w K mg base 3 "_law_way" 2 [] (fun ds _ => ds) m_law_way) (C_law_act_2 : CalG P w K mg base 10 "_law_act" 2 [] (fun ds _ => ds) m_law_act) : ∀ n : Nat, (FnG P w K mg base (L2.CX P w) (10 + n + 1) f_law_stand d_law_stand ["_law_bag_here", "_law_menu_here", "_law_nested"] (spM ⟨K, mg⟩ (["_law_bag_here", "_law_menu_here", "_law_nested"] : List Str).length (r_law_stand n))) ∧ (FnG P w K mg base (L2.CX P w) (10 + n + 1) f_law_writ d_law_writ ["_law_bag_here", "_law_menu_here", "_law_nested"] (spM ⟨K, mg⟩ (["_law_bag_here", "_law_menu_here", "_law_nested"] : List Str).length (r_law_writ n)))
  | 0 => ⟨fn_okX F_law_stand sc_law_stand fun cdv A outer s H E hr => ss_bad,
    fn_okX F_law_writ sc_law_writ fun cdv A outer s H E hr => ss_bad⟩
  | n + 1 => by
    obtain ⟨O_law_stand, O_law_writ⟩ := rok_law_stand T F_law_stand F_law_writ B_law_stand_3 B_law_writ_3 C_law_get_2 C_law_pick_2 C_law_cond_3 C_law_change_3 C_law_way_2 C_law_act_2 n
    have C_law_stand_3 := B_law_stand_3.cal O_law_stand
    have C_law_writ_3 := B_law_writ_3.cal O_law_writ
    exact ⟨fn_okX F_law_stand sc_law_stand fun cdv A outer s H E hr =>
    (s_cons (s_set 3 (SO.own (e_lst a_nil)) sc_law_stand.nd)
    (s_cons (s_for rfl (i_anyD (SO.fz (e_ss T.b_sorted T.b_set (SO.fz (e_lc rfl sc_law_stand.nd (i_range1 T.b_range (a_cons (SO.fz (o_add e_int (e_calG C_law_get_2 (hr.mono (by omega)) (takes_of rfl rfl rfl rfl) (a_cons (e_var 0) (a_cons e_int a_nil)) k_nil))) a_nil)) (blkOk_by (own := [("_law_k", 5)]) (N := N_law_stand) (sc := defScope st_law_stand) (by decide +kernel)) (fun _ _ _ _ _ => (g_name 5 sc_law_stand.nd)) (fun _ _ _ _ _ => ts_nil) (fun _ _ _ _ _ => (e_calG C_law_pick_2 (hr.mono (by omega)) takes0 (a_cons (e_var 0) (a_cons (SO.fz (e_lst (a_cons e_int (a_cons e_int (a_cons e_int (a_cons e_int (a_cons e_int (a_cons e_int (a_cons e_int (a_cons e_int (a_cons e_int a_nil))))))))))) a_nil)) k_nil)))) rfl))) (g_name 4 sc_law_stand.nd) (s_cons (s_expr (SO.fz (e_meth PySem.F.plainAttrs_list PySem.F.slot_list_append PySem.F.type_list_append mt_append isOwnL_ty s_app (e_var 3) (a_cons (e_calG C_law_change_3 (hr.mono (by omega)) (takes_of rfl rfl rfl rfl) (a_cons (e_var 0) (a_cons (e_var 1) (a_cons (e_var 4) a_nil))) k_nil) a_nil))))
    (s_one (s_if (t_w (w_and (t_eq hr.r (e_var 4) e_int) (w_and (t_tru (e_var 2)) (w_and (t_gt (e_calG C_law_get_2 (hr.mono (by omega)) (takes_of rfl rfl rfl rfl) (a_cons (e_var 0) (a_cons e_int a_nil)) k_nil) e_int) (w_and1 (t_lt (e_ixD hr.r (e_var 0) e_int) e_int)))))) (s_cons (s_asg (SO.fz (o_add (e_ixD hr.r (e_var 0) e_int) e_int)) (g_sub (e_var 0) e_int))
    (s_one (s_asg (e_tup (a_cons e_str (a_cons (e_calG C_law_writ_3 (hr.mono (by omega)) (takes_of rfl rfl rfl rfl) (a_cons (e_var 0) (a_cons (e_var 1) (a_cons e_bl a_nil))) k_nil) a_nil))) (g_sub (e_var 3) (e_neg e_int))))) s_nil))) (passes_of rfl))
    (s_one (s_ret (e_tup (a_cons e_str (a_cons (e_calG C_law_cond_3 (hr.mono (by omega)) (takes_of rfl rfl rfl rfl) (a_cons (e_var 0) (a_cons (e_var 1) (a_cons e_int a_nil))) k_nil) (a_cons (SO.fz (e_bt call_tuple_of s_tuple T.b_tuple PyProof.Rows.boot_tuple (a_cons (e_var 3) a_nil))) a_nil)))))))),
    fn_okX F_law_writ sc_law_writ fun cdv A outer s H E hr =>
    (s_cons (s_set 3 (e_calG C_law_get_2 (hr.mono (by omega)) (takes_of rfl rfl rfl rfl) (a_cons (e_var 0) (a_cons e_int a_nil)) k_nil) sc_law_writ.nd)
    (s_cons (s_if (t_lt (e_var 3) e_int) (s_one (s_ret (e_calG C_law_stand_3 (hr.mono (by omega)) (takes_of rfl rfl rfl rfl) (a_cons (e_var 0) (a_cons (e_var 1) (a_cons (e_var 2) a_nil))) k_nil))) s_nil)
    (s_cons (s_set 4 (e_calG C_law_pick_2 (hr.mono (by omega)) (takes_of rfl rfl rfl rfl) (a_cons (e_var 0) (a_cons (e_ixD hr.r (SO.fz (e_lst (a_cons (SO.fz (e_lst (a_cons e_str (a_cons e_str (a_cons e_str (a_cons e_str a_nil)))))) (a_cons (SO.fz (e_lst (a_cons e_str (a_cons e_str (a_cons e_str (a_cons e_str a_nil)))))) a_nil)))) (SO.fz (o_sub (e_var 3) e_int))) a_nil)) k_nil) sc_law_writ.nd)
    (s_cons (s_if (t_eq hr.r (e_var 3) e_int) (s_one (s_ret (e_tup (a_cons e_str (a_cons (e_var 4) (a_cons (e_calG C_law_cond_3 (hr.mono (by omega)) (takes_of rfl rfl rfl rfl) (a_cons (e_var 0) (a_cons (e_var 1) (a_cons e_int a_nil))) k_nil) (a_cons (e_calG C_law_way_2 (hr.mono (by omega)) (takes_of rfl rfl rfl rfl) (a_cons (e_var 0) (a_cons (e_var 4) a_nil)) k_nil) a_nil))))))) s_nil)
    (s_one (s_ret (e_tup (a_cons e_str (a_cons (e_var 4) (a_cons (e_calG C_law_cond_3 (hr.mono (by omega)) (takes_of rfl rfl rfl rfl) (a_cons (e_var 0) (a_cons (e_var 1) (a_cons e_int a_nil))) k_nil) (a_cons (e_calG C_law_act_2 (hr.mono (by omega)) (takes_of rfl rfl rfl rfl) (a_cons (e_var 0) (a_cons (e_var 1) a_nil)) k_nil) a_nil)))))))))))⟩
noncomputable abbrev m_law_stand := r_law_stand 5
noncomputable abbrev m_law_writ := r_law_writ 5
theorem ok_law_stand (T : Txt K w mg) {f_law_stand : Addr} {d_law_stand : FuncData} (F_law_stand : DefX K mg "_law_stand" "_law_stand" st_law_stand [] [] f_law_stand d_law_stand) {f_law_writ : Addr} {d_law_writ : FuncData} (F_law_writ : DefX K mg "_law_writ" "_law_writ" st_law_writ [] [] f_law_writ d_law_writ) (B_law_stand_3 : ShB K mg "_law_stand" f_law_stand d_law_stand ["_law_bag_here", "_law_menu_here", "_law_nested"] 3 [] (fun ds _ => ds)) (B_law_writ_3 : ShB K mg "_law_writ" f_law_writ d_law_writ ["_law_bag_here", "_law_menu_here", "_law_nested"] 3 [] (fun ds _ => ds)) (C_law_get_2 : CalG P w K mg base 1 "_law_get" 2 [] (fun ds _ => ds) m_law_get) (C_law_pick_2 : CalG P w K mg base 2 "_law_pick" 2 [] (fun ds _ => ds) m_law_pick) (C_law_cond_3 : CalG P w K mg base 8 "_law_cond" 3 [] (fun ds _ => ds) m_law_cond) (C_law_change_3 : CalG P w K mg base 9 "_law_change" 3 [] (fun ds _ => ds) m_law_change) (C_law_way_2 : CalG P w K mg base 3 "_law_way" 2 [] (fun ds _ => ds) m_law_way) (C_law_act_2 : CalG P w K mg base 10 "_law_act" 2 [] (fun ds _ => ds) m_law_act) : (FnG P w K mg base (L2.CX P w) 16 f_law_stand d_law_stand ["_law_bag_here", "_law_menu_here", "_law_nested"] (spM ⟨K, mg⟩ (["_law_bag_here", "_law_menu_here", "_law_nested"] : List Str).length m_law_stand)) ∧ (FnG P w K mg base (L2.CX P w) 16 f_law_writ d_law_writ ["_law_bag_here", "_law_menu_here", "_law_nested"] (spM ⟨K, mg⟩ (["_law_bag_here", "_law_menu_here", "_law_nested"] : List Str).length m_law_writ)) := rok_law_stand T F_law_stand F_law_writ B_law_stand_3 B_law_writ_3 C_law_get_2 C_law_pick_2 C_law_cond_3 C_law_change_3 C_law_way_2 C_law_act_2 5

abbrev st_law_card : Stmt := topS 19
abbrev N_law_card : List Str := ["_law_bag_here", "_law_menu_here", "_law_written", "_law_k"]
theorem sc_law_card : FnScope N_law_card ["_law_bag_here", "_law_menu_here"] (defScope st_law_card) := ⟨rfl, rfl, rfl, by decide +kernel, rfl, by decide +kernel, by decide +kernel⟩
noncomputable def b_law_card : MS :=
    (mSeq (mSet 2 (mFz (mBi tupleF (aCons (mFz (mLc [3] (mSrc (fun _ => range1F) (aCons (mCalG 2 0 (fun ds _ => ds) m_law_pick (aCons (mVar 0) (aCons (mFz (mLst (aCons (mC (.int 0)) (aCons (mC (.int 1)) (aCons (mC (.int 1)) (aCons (mC (.int 2)) (aCons (mC (.int 3)) aNil))))))) aNil)) aNil) aNil)) (gSet 3) tYesM (mCalG 3 0 (fun ds _ => ds) m_law_writ (aCons (mVar 0) (aCons (mVar 1) (aCons (mC (.bl true)) aNil))) aNil))) aNil))))
    (mRet (mTup (aCons (mCalG 2 0 (fun ds _ => ds) m_law_words (aCons (mVar 0) (aCons (mVar 1) aNil)) aNil) (aCons (mCalG 2 0 (fun ds _ => ds) m_law_words (aCons (mVar 0) (aCons (mVar 1) aNil)) aNil) (aCons (mFz (mBin subF (mCalG 2 0 (fun ds _ => ds) m_law_get (aCons (mVar 0) (aCons (mC (.int 6)) aNil)) aNil) (mC (.int 1)))) (aCons (mFz (mBin addF (mC (.int 1)) (mCalG 2 0 (fun ds _ => ds) m_law_get (aCons (mVar 0) (aCons (mC (.int 6)) aNil)) aNil))) (aCons (mVar 2) aNil))))))))
noncomputable def m_law_card : List D → Hd → Res D := runB 4 b_law_card
theorem ok_law_card (T : Txt K w mg) {f : Addr} {fd : FuncData} (F_law_card : DefX K mg "_law_card" "_law_card" st_law_card [] [] f fd) (C_law_get_2 : CalG P w K mg base 1 "_law_get" 2 [] (fun ds _ => ds) m_law_get) (C_law_pick_2 : CalG P w K mg base 2 "_law_pick" 2 [] (fun ds _ => ds) m_law_pick) (C_law_words_2 : CalG P w K mg base 2 "_law_words" 2 [] (fun ds _ => ds) m_law_words) (C_law_writ_3 : CalG P w K mg base 16 "_law_writ" 3 [] (fun ds _ => ds) m_law_writ) : FnG P w K mg base (L2.CX P w) 17 f fd ["_law_bag_here", "_law_menu_here"] (spM ⟨K, mg⟩ (["_law_bag_here", "_law_menu_here"] : List Str).length m_law_card) := (fn_okX F_law_card sc_law_card fun cdv A outer s H E hr =>
    (s_cons (s_set 2 (SO.fz (e_bt call_tuple_of s_tuple T.b_tuple PyProof.Rows.boot_tuple (a_cons (SO.fz (e_lc rfl sc_law_card.nd (i_range1 T.b_range (a_cons (e_calG C_law_pick_2 (hr.mono (by decide)) (takes_of rfl rfl rfl rfl) (a_cons (e_var 0) (a_cons (SO.fz (e_lst (a_cons e_int (a_cons e_int (a_cons e_int (a_cons e_int (a_cons e_int a_nil))))))) a_nil)) k_nil) a_nil)) (blkOk_by (own := [("_law_k", 3)]) (N := N_law_card) (sc := defScope st_law_card) (by decide +kernel)) (fun _ _ _ _ _ => (g_name 3 sc_law_card.nd)) (fun _ _ _ _ _ => ts_nil) (fun _ _ _ _ _ => (e_calG C_law_writ_3 (hr.mono (by decide)) takes0 (a_cons (e_var 0) (a_cons (e_var 1) (a_cons e_bl a_nil))) k_nil)))) a_nil))) sc_law_card.nd)
    (s_one (s_ret (e_tup (a_cons (e_calG C_law_words_2 (hr.mono (by decide)) (takes_of rfl rfl rfl rfl) (a_cons (e_var 0) (a_cons (e_var 1) a_nil)) k_nil) (a_cons (e_calG C_law_words_2 (hr.mono (by decide)) (takes_of rfl rfl rfl rfl) (a_cons (e_var 0) (a_cons (e_var 1) a_nil)) k_nil) (a_cons (SO.fz (o_sub (e_calG C_law_get_2 (hr.mono (by decide)) (takes_of rfl rfl rfl rfl) (a_cons (e_var 0) (a_cons e_int a_nil)) k_nil) e_int)) (a_cons (SO.fz (o_add e_int (e_calG C_law_get_2 (hr.mono (by decide)) (takes_of rfl rfl rfl rfl) (a_cons (e_var 0) (a_cons e_int a_nil)) k_nil))) (a_cons (e_var 2) a_nil))))))))))

abbrev st_law_look : Stmt := topS 20
abbrev N_law_look : List Str := ["_law_number", "_law_hand_now", "_law_moment", "_law_card_here", "_law_found", "_law_at", "_law_writ_here"]
theorem sc_law_look : FnScope N_law_look ["_law_number", "_law_hand_now", "_law_moment", "_law_card_here"] (defScope st_law_look) := ⟨rfl, rfl, rfl, by decide +kernel, rfl, by decide +kernel, by decide +kernel⟩
noncomputable def b_law_look : MS :=
    (mSeq (mSet 4 (mOwn (mDisp (pCons (mC (.str "hand")) (mVar 1) (pCons (mC (.str "kinds")) (mIxD (mVar 3) (mC (.int 0))) (pCons (mC (.str "colours")) (mIxD (mVar 3) (mC (.int 1))) (pCons (mC (.str "force")) (mIxD (mVar 3) (mC (.int 2))) (pCons (mC (.str "guard")) (mIxD (mVar 3) (mC (.int 3))) pNil))))))))
    (mSeq (mDPut (mVar 4) (mC (.str "writs")) (mFz (mLc [5, 6] (mSrc enumF (aCons (mIxD (mVar 3) (mC (.int 4))) aNil)) (gTupM 2 (gsCons (gSet 5) (gsCons (gSet 6) gsNil))) tYesM (mTup (aCons (mTup (aCons (mVar 2) (aCons (mVar 0) (aCons (mVar 5) aNil)))) (aCons (mVar 6) aNil))))))
    (mRet (mFrz (mVar 4)))))
noncomputable def m_law_look : List D → Hd → Res D := runB 7 b_law_look
theorem ok_law_look (T : Txt K w mg) {f : Addr} {fd : FuncData} (F_law_look : DefX K mg "_law_look" "_law_look" st_law_look [] [] f fd)  : FnG P w K mg base (L2.CX P w) 1 f fd ["_law_number", "_law_hand_now", "_law_moment", "_law_card_here"] (spM ⟨K, mg⟩ (["_law_number", "_law_hand_now", "_law_moment", "_law_card_here"] : List Str).length m_law_look) := (fn_okX F_law_look sc_law_look fun cdv A outer s H E hr =>
    (s_cons (s_set 4 (SO.own (e_disp (sp_cons e_str (e_var 1) (sp_cons e_str (e_ixD hr.r (e_var 3) e_int) (sp_cons e_str (e_ixD hr.r (e_var 3) e_int) (sp_cons e_str (e_ixD hr.r (e_var 3) e_int) (sp_cons e_str (e_ixD hr.r (e_var 3) e_int) sp_nil))))))) sc_law_look.nd)
    (s_cons (s_dput hr.r (e_var 4) e_str (SO.fz (e_lc rfl sc_law_look.nd (i_enum T.b_enumerate (a_cons (e_ixD hr.r (e_var 3) e_int) a_nil)) (blkOk_by (own := [("_law_at", 5), ("_law_writ_here", 6)]) (N := N_law_look) (sc := defScope st_law_look) (by decide +kernel)) (fun _ _ _ _ _ => (g_tup rfl (gs_cons (gn_name 5 sc_law_look.nd) (gs_cons (gn_name 6 sc_law_look.nd) gs_nil)))) (fun _ _ _ _ _ => ts_nil) (fun _ _ _ _ _ => (e_tup (a_cons (e_tup (a_cons (e_var 2) (a_cons (e_var 0) (a_cons (e_var 5) a_nil)))) (a_cons (e_var 6) a_nil)))))))
    (s_one (s_ret (e_frz (e_var 4)))))))

abbrev st_law_with : Stmt := topS 21
abbrev N_law_with : List Str := ["_law_look_here", "_law_name", "_law_thing_now", "_law_found"]
theorem sc_law_with : FnScope N_law_with ["_law_look_here", "_law_name", "_law_thing_now"] (defScope st_law_with) := ⟨rfl, rfl, rfl, by decide +kernel, rfl, by decide +kernel, by decide +kernel⟩
noncomputable def b_law_with : MS :=
    (mSeq (mSet 3 (mOwn (mBi dictF (aCons (mVar 0) aNil))))
    (mSeq (mDPut (mVar 3) (mVar 1) (mVar 2))
    (mRet (mFrz (mVar 3)))))
noncomputable def m_law_with : List D → Hd → Res D := runB 4 b_law_with
theorem ok_law_with (T : Txt K w mg) {f : Addr} {fd : FuncData} (F_law_with : DefX K mg "_law_with" "_law_with" st_law_with [] [] f fd)  : FnG P w K mg base (L2.CX P w) 1 f fd ["_law_look_here", "_law_name", "_law_thing_now"] (spM ⟨K, mg⟩ (["_law_look_here", "_law_name", "_law_thing_now"] : List Str).length m_law_with) := (fn_okX F_law_with sc_law_with fun cdv A outer s H E hr =>
    (s_cons (s_set 3 (SO.own (e_bt call_dictD s_dict T.b_dict PyProof.Rows.boot_dict (a_cons (e_var 0) a_nil))) sc_law_with.nd)
    (s_cons (s_dput hr.r (e_var 3) (e_var 1) (e_var 2))
    (s_one (s_ret (e_frz (e_var 3)))))))

abbrev st_law_from : Stmt := topS 22
abbrev N_law_from : List Str := ["_law_state", "_law_one", "_law_hand_now"]
theorem sc_law_from : FnScope N_law_from ["_law_state", "_law_one", "_law_hand_now"] (defScope st_law_from) := ⟨rfl, rfl, rfl, by decide +kernel, rfl, by decide +kernel, by decide +kernel⟩
noncomputable def b_law_from : MS :=
    (mRet (mIf (mCmp cInD (mVar 1) (mVar 0)) (mIxD (mIxD (mVar 0) (mVar 1)) (mC (.str "hand"))) (mVar 2)))
noncomputable def m_law_from : List D → Hd → Res D := runB 3 b_law_from
theorem ok_law_from (T : Txt K w mg) {f : Addr} {fd : FuncData} (F_law_from : DefX K mg "_law_from" "_law_from" st_law_from [] [] f fd)  : FnG P w K mg base (L2.CX P w) 1 f fd ["_law_state", "_law_one", "_law_hand_now"] (spM ⟨K, mg⟩ (["_law_state", "_law_one", "_law_hand_now"] : List Str).length m_law_from) := (fn_okX F_law_from sc_law_from fun cdv A outer s H E hr =>
    (s_one (s_ret (e_if (t_inDD hr.r (e_var 1) (e_var 0)) (e_ixD hr.r (e_ixD hr.r (e_var 0) (e_var 1)) e_str) (e_var 2)))))

abbrev st_law_sees : Stmt := topS 23
abbrev N_law_sees : List Str := ["_law_cond_here", "_law_state", "_law_number", "_law_one", "_law_hand_now", "_law_first", "_law_look_here", "_law_told", "_law_part"]
theorem sc_law_sees : FnScope N_law_sees ["_law_cond_here", "_law_state", "_law_number", "_law_one", "_law_hand_now"] (defScope st_law_sees) := ⟨rfl, rfl, rfl, by decide +kernel, rfl, by decide +kernel, by decide +kernel⟩
noncomputable def b_law_sees (q_law_sees : List D → Hd → Res D) : MS :=
    (mSeq (mPar 5 6 (aCons (mIxD (mVar 0) (mC (.int 0))) (aCons (mIxD (mVar 1) (mVar 2)) aNil)))
    (mSeq (mIfS (mCmp cInD (mVar 5) (mTup (aCons (mC (.str "any")) (aCons (mC (.str "self")) (aCons (mC (.str "other")) aNil))))) (mRet (mOrV (mB (mCmp cEq (mVar 5) (mC (.str "any")))) (mB (mCmp cEq (mB (mCmp cEq (mVar 2) (mVar 3))) (mB (mCmp cEq (mVar 5) (mC (.str "self")))))))) mNil)
    (mSeq (mIfS (mCmp cEq (mVar 5) (mC (.str "mine"))) (mRet (mB (mCmp cEq (mIxD (mVar 6) (mC (.str "hand"))) (mCalG 3 0 (fun ds _ => ds) m_law_from (aCons (mVar 1) (aCons (mVar 3) (aCons (mVar 4) aNil))) aNil)))) mNil)
    (mSeq (mIfS (mCmp cInD (mVar 5) (mTup (aCons (mC (.str "kind")) (aCons (mC (.str "colour")) aNil)))) (mRet (mB (mCmp cInD (mIxD (mVar 0) (mC (.int 1))) (mIxD (mVar 6) (mFz (mBin addF (mVar 5) (mC (.str "s")))))))) mNil)
    (mSeq (mIfS (mCmp cEq (mVar 5) (mC (.str "least"))) (mRet (mB (mCmp cGe (mIxD (mVar 6) (mC (.str "force"))) (mIxD (mVar 0) (mC (.int 1)))))) mNil)
    (mSeq (mSet 7 (mFz (mLc [8] (mIterD (mFz (mSl (mVar 0) (oSome (mC (.int 1))) oNone))) (gSet 8) tYesM (mCalG 5 0 (fun ds _ => ds) q_law_sees (aCons (mVar 8) (aCons (mVar 1) (aCons (mVar 2) (aCons (mVar 3) (aCons (mVar 4) aNil))))) aNil))))
    (mSeq (mIfS (mCmp cEq (mVar 5) (mC (.str "not"))) (mRet (mNotV (mIxD (mVar 7) (mC (.int 0))))) mNil)
    (mRet (mIf (mCmp cEq (mVar 5) (mC (.str "both"))) (mFz (mBi allF (aCons (mVar 7) aNil))) (mFz (mBi anyF (aCons (mVar 7) aNil))))))))))))
noncomputable def r_law_sees : Nat → List D → Hd → Res D
  | 0 => runB 9 mBadS
  | n + 1 => runB 9 (b_law_sees (r_law_sees n))
theorem rok_law_sees (T : Txt K w mg) {f_law_sees : Addr} {d_law_sees : FuncData} (F_law_sees : DefX K mg "_law_sees" "_law_sees" st_law_sees [] [] f_law_sees d_law_sees) (B_law_sees_5 : ShB K mg "_law_sees" f_law_sees d_law_sees ["_law_cond_here", "_law_state", "_law_number", "_law_one", "_law_hand_now"] 5 [] (fun ds _ => ds)) (C_law_from_3 : CalG P w K mg base 1 "_law_from" 3 [] (fun ds _ => ds) m_law_from) : ∀ n : Nat, (FnG P w K mg base (L2.CX P w) (1 + n + 1) f_law_sees d_law_sees ["_law_cond_here", "_law_state", "_law_number", "_law_one", "_law_hand_now"] (spM ⟨K, mg⟩ (["_law_cond_here", "_law_state", "_law_number", "_law_one", "_law_hand_now"] : List Str).length (r_law_sees n)))
  | 0 => fn_okX F_law_sees sc_law_sees fun cdv A outer s H E hr => ss_bad
  | n + 1 =>
    have O_law_sees := rok_law_sees T F_law_sees B_law_sees_5 C_law_from_3 n
    have C_law_sees_5 := B_law_sees_5.cal O_law_sees
    fn_okX F_law_sees sc_law_sees fun cdv A outer s H E hr =>
    (s_cons (s_par 5 6 sc_law_sees.nd (a_cons (e_ixD hr.r (e_var 0) e_int) (a_cons (e_ixD hr.r (e_var 1) (e_var 2)) a_nil)))
    (s_cons (s_if (t_inDD hr.r (e_var 5) (e_tup (a_cons e_str (a_cons e_str (a_cons e_str a_nil))))) (s_one (s_ret (e_or (e_eq hr.r (e_var 5) e_str) (e_one (e_eq hr.r (e_eq hr.r (e_var 2) (e_var 3)) (e_eq hr.r (e_var 5) e_str)))))) s_nil)
    (s_cons (s_if (t_eq hr.r (e_var 5) e_str) (s_one (s_ret (e_eq hr.r (e_ixD hr.r (e_var 6) e_str) (e_calG C_law_from_3 (hr.mono (by omega)) (takes_of rfl rfl rfl rfl) (a_cons (e_var 1) (a_cons (e_var 3) (a_cons (e_var 4) a_nil))) k_nil)))) s_nil)
    (s_cons (s_if (t_inDD hr.r (e_var 5) (e_tup (a_cons e_str (a_cons e_str a_nil)))) (s_one (s_ret (e_inDD hr.r (e_ixD hr.r (e_var 0) e_int) (e_ixD hr.r (e_var 6) (SO.fz (o_add (e_var 5) e_str)))))) s_nil)
    (s_cons (s_if (t_eq hr.r (e_var 5) e_str) (s_one (s_ret (e_ge (e_ixD hr.r (e_var 6) e_str) (e_ixD hr.r (e_var 0) e_int)))) s_nil)
    (s_cons (s_lcFz 7 rfl sc_law_sees.nd (i_anyD (SO.fz (e_sl (e_var 0) (o_some e_int) o_none))) (blkOk_by (own := [("_law_part", 8)]) (N := N_law_sees) (sc := defScope st_law_sees) (by decide +kernel)) (fun _ _ _ _ _ => (g_name 8 sc_law_sees.nd)) (fun _ _ _ _ _ => ts_nil) (fun _ _ _ _ _ => (e_calG C_law_sees_5 (hr.mono (by omega)) takes0 (a_cons (e_var 8) (a_cons (e_var 1) (a_cons (e_var 2) (a_cons (e_var 3) (a_cons (e_var 4) a_nil))))) k_nil)))
    (s_cons (s_if (t_eq hr.r (e_var 5) e_str) (s_one (s_ret (e_not (e_ixD hr.r (e_var 7) e_int)))) s_nil)
    (s_one (s_ret (e_if (t_eq hr.r (e_var 5) e_str) (SO.fz (e_bi (cr_all rfl) s_all T.b_all PyProof.Rows.boot_all (a_cons (e_var 7) a_nil))) (SO.fz (e_bi (cr_any rfl) s_any T.b_any PyProof.Rows.boot_any (a_cons (e_var 7) a_nil)))))))))))))
noncomputable abbrev m_law_sees := r_law_sees 5
theorem ok_law_sees (T : Txt K w mg) {f_law_sees : Addr} {d_law_sees : FuncData} (F_law_sees : DefX K mg "_law_sees" "_law_sees" st_law_sees [] [] f_law_sees d_law_sees) (B_law_sees_5 : ShB K mg "_law_sees" f_law_sees d_law_sees ["_law_cond_here", "_law_state", "_law_number", "_law_one", "_law_hand_now"] 5 [] (fun ds _ => ds)) (C_law_from_3 : CalG P w K mg base 1 "_law_from" 3 [] (fun ds _ => ds) m_law_from) : (FnG P w K mg base (L2.CX P w) 7 f_law_sees d_law_sees ["_law_cond_here", "_law_state", "_law_number", "_law_one", "_law_hand_now"] (spM ⟨K, mg⟩ (["_law_cond_here", "_law_state", "_law_number", "_law_one", "_law_hand_now"] : List Str).length m_law_sees)) := rok_law_sees T F_law_sees B_law_sees_5 C_law_from_3 5

abbrev st_law_whom : Stmt := topS 24
abbrev N_law_whom : List Str := ["_law_cond_here", "_law_state", "_law_one", "_law_hand_now", "_law_number"]
theorem sc_law_whom : FnScope N_law_whom ["_law_cond_here", "_law_state", "_law_one", "_law_hand_now"] (defScope st_law_whom) := ⟨rfl, rfl, rfl, by decide +kernel, rfl, by decide +kernel, by decide +kernel⟩
noncomputable def b_law_whom : MS :=
    (mRet (mFz (mBi tupleF (aCons (mFz (mLc [4] (mIterD (mFz (mBi srtDF (aCons (mVar 1) aNil)))) (gSet 4) (mTru (mCalG 5 0 (fun ds _ => ds) m_law_sees (aCons (mVar 0) (aCons (mVar 1) (aCons (mVar 4) (aCons (mVar 2) (aCons (mVar 3) aNil))))) aNil)) (mVar 4))) aNil))))
noncomputable def m_law_whom : List D → Hd → Res D := runB 5 b_law_whom
theorem ok_law_whom (T : Txt K w mg) {f : Addr} {fd : FuncData} (F_law_whom : DefX K mg "_law_whom" "_law_whom" st_law_whom [] [] f fd) (C_law_sees_5 : CalG P w K mg base 7 "_law_sees" 5 [] (fun ds _ => ds) m_law_sees) : FnG P w K mg base (L2.CX P w) 8 f fd ["_law_cond_here", "_law_state", "_law_one", "_law_hand_now"] (spM ⟨K, mg⟩ (["_law_cond_here", "_law_state", "_law_one", "_law_hand_now"] : List Str).length m_law_whom) := (fn_okX F_law_whom sc_law_whom fun cdv A outer s H E hr =>
    (s_one (s_ret (SO.fz (e_bt call_tuple_of s_tuple T.b_tuple PyProof.Rows.boot_tuple (a_cons (SO.fz (e_lc rfl sc_law_whom.nd (i_anyD (SO.fz (e_bi (cr_srtD rfl) s_srtD T.b_sorted PyProof.Rows.boot_sorted (a_cons (e_var 1) a_nil)))) (blkOk_by (own := [("_law_number", 4)]) (N := N_law_whom) (sc := defScope st_law_whom) (by decide +kernel)) (fun _ _ _ _ _ => (g_name 4 sc_law_whom.nd)) (fun _ _ _ _ _ => (ts_one (t_tru (e_calG C_law_sees_5 (hr.mono (by decide)) takes0 (a_cons (e_var 0) (a_cons (e_var 1) (a_cons (e_var 4) (a_cons (e_var 2) (a_cons (e_var 3) a_nil))))) k_nil)))) (fun _ _ _ _ _ => (e_var 4)))) a_nil))))))

abbrev st_law_board : Stmt := topS 25
abbrev N_law_board : List Str := ["_law_bag_here", "_law_menu_here", "_law_most", "_law_found", "_law_moments", "_law_numbers", "_law_at", "_law_number", "_law_marks_now"]
theorem sc_law_board : FnScope N_law_board ["_law_bag_here", "_law_menu_here", "_law_most"] (defScope st_law_board) := ⟨rfl, rfl, rfl, by decide +kernel, rfl, by decide +kernel, by decide +kernel⟩
noncomputable def b_law_board : MS :=
    (mSeq (mSet 3 (mOwn mDict0))
    (mSeq (mSet 4 (mCalG 2 0 (fun ds _ => ds) m_law_shuffled (aCons (mVar 0) (aCons (mFz (mLRg2 (mC (.int 1)) (mC (.int 10)))) aNil)) aNil))
    (mSeq (mSet 5 (mFz (mSl (mCalG 2 0 (fun ds _ => ds) m_law_shuffled (aCons (mVar 0) (aCons (mFz (mLRg2 (mC (.int 1)) (mC (.int 8)))) aNil)) aNil) oNone (oSome (mFz (mBin addF (mC (.int 1)) (mCalG 2 0 (fun ds _ => ds) m_law_get (aCons (mVar 0) (aCons (mVar 2) aNil)) aNil)))))))
    (mSeq (mFor (mSrc enumF (aCons (mFz (mBi srtDF (aCons (mVar 5) aNil))) aNil)) (gTupM 2 (gsCons (gSet 6) (gsCons (gSet 7) gsNil))) (mSeq (mSet 8 (mCalG 2 0 (fun ds _ => ds) m_law_pick (aCons (mVar 0) (aCons (mFz (mLst (aCons (mC (.int 0)) (aCons (mC (.int 0)) (aCons (mC (.int 0)) (aCons (mC (.int 1)) (aCons (mC (.int 2)) aNil))))))) aNil)) aNil))
    (mDPut (mVar 3) (mVar 7) (mTup (aCons (mCalG 2 0 (fun ds _ => ds) m_law_get (aCons (mVar 0) (aCons (mC (.int 2)) aNil)) aNil) (aCons (mIxD (mVar 4) (mVar 6)) (aCons (mCalG 2 0 (fun ds _ => ds) m_law_card (aCons (mVar 0) (aCons (mVar 1) aNil)) aNil) (aCons (mVar 8) aNil))))))))
    (mRet (mFrz (mVar 3)))))))
noncomputable def m_law_board : List D → Hd → Res D := runB 9 b_law_board
theorem ok_law_board (T : Txt K w mg) {f : Addr} {fd : FuncData} (F_law_board : DefX K mg "_law_board" "_law_board" st_law_board [] [] f fd) (C_law_get_2 : CalG P w K mg base 1 "_law_get" 2 [] (fun ds _ => ds) m_law_get) (C_law_pick_2 : CalG P w K mg base 2 "_law_pick" 2 [] (fun ds _ => ds) m_law_pick) (C_law_shuffled_2 : CalG P w K mg base 2 "_law_shuffled" 2 [] (fun ds _ => ds) m_law_shuffled) (C_law_card_2 : CalG P w K mg base 17 "_law_card" 2 [] (fun ds _ => ds) m_law_card) : FnG P w K mg base (L2.CX P w) 18 f fd ["_law_bag_here", "_law_menu_here", "_law_most"] (spM ⟨K, mg⟩ (["_law_bag_here", "_law_menu_here", "_law_most"] : List Str).length m_law_board) := (fn_okX F_law_board sc_law_board fun cdv A outer s H E hr =>
    (s_cons (s_set 3 (SO.own e_dict0) sc_law_board.nd)
    (s_cons (s_set 4 (e_calG C_law_shuffled_2 (hr.mono (by decide)) (takes_of rfl rfl rfl rfl) (a_cons (e_var 0) (a_cons (SO.fz (e_lrg2 rfl T.b_list T.b_range e_int e_int)) a_nil)) k_nil) sc_law_board.nd)
    (s_cons (s_set 5 (SO.fz (e_sl (e_calG C_law_shuffled_2 (hr.mono (by decide)) (takes_of rfl rfl rfl rfl) (a_cons (e_var 0) (a_cons (SO.fz (e_lrg2 rfl T.b_list T.b_range e_int e_int)) a_nil)) k_nil) o_none (o_some (SO.fz (o_add e_int (e_calG C_law_get_2 (hr.mono (by decide)) (takes_of rfl rfl rfl rfl) (a_cons (e_var 0) (a_cons (e_var 2) a_nil)) k_nil)))))) sc_law_board.nd)
    (s_cons (s_for rfl (i_enum T.b_enumerate (a_cons (SO.fz (e_bi (cr_srtD rfl) s_srtD T.b_sorted PyProof.Rows.boot_sorted (a_cons (e_var 5) a_nil))) a_nil)) (g_tup rfl (gs_cons (gn_name 6 sc_law_board.nd) (gs_cons (gn_name 7 sc_law_board.nd) gs_nil))) (s_cons (s_set 8 (e_calG C_law_pick_2 (hr.mono (by decide)) (takes_of rfl rfl rfl rfl) (a_cons (e_var 0) (a_cons (SO.fz (e_lst (a_cons e_int (a_cons e_int (a_cons e_int (a_cons e_int (a_cons e_int a_nil))))))) a_nil)) k_nil) sc_law_board.nd)
    (s_one (s_dput hr.r (e_var 3) (e_var 7) (e_tup (a_cons (e_calG C_law_get_2 (hr.mono (by decide)) (takes_of rfl rfl rfl rfl) (a_cons (e_var 0) (a_cons e_int a_nil)) k_nil) (a_cons (e_ixD hr.r (e_var 4) (e_var 6)) (a_cons (e_calG C_law_card_2 (hr.mono (by decide)) (takes_of rfl rfl rfl rfl) (a_cons (e_var 0) (a_cons (e_var 1) a_nil)) k_nil) (a_cons (e_var 8) a_nil)))))))) (passes_of rfl))
    (s_one (s_ret (e_frz (e_var 3)))))))))

abbrev stlaw : Stmt := topS 26
abbrev Nlaw : List Str := ["_law_script", "_law_bag_here", "_law_menu_here", "_law_board_here", "_law_state", "_law_number", "_law_look_here", "_law_name", "_law_writ_here", "_law_kept", "_law_turn", "_law_cond_here", "_law_one", "_law_hand_now", "_law_due"]
theorem sclaw : FnScope Nlaw ["_law_script"] (defScope stlaw) := ⟨rfl, rfl, rfl, by decide +kernel, rfl, by decide +kernel, by decide +kernel⟩
noncomputable def blaw : MS :=
    (mSeq (mSet 1 (mCalG 1 0 (fun ds _ => ds) m_law_bag (aCons (mVar 0) aNil) aNil))
    (mSeq (mSet 2 (mCalG 1 0 (fun ds _ => ds) m_law_menu (aCons (mVar 1) aNil) aNil))
    (mSeq (mSet 3 (mCalG 3 0 (fun ds _ => ds) m_law_board (aCons (mVar 1) (aCons (mVar 2) (aCons (mC (.int 4)) aNil))) aNil))
    (mSeq (mSet 4 (mOwn mDict0))
    (mSeq (mFor (mIterD (mCalG 2 0 (fun ds _ => ds) m_law_shuffled (aCons (mVar 1) (aCons (mFz (mBi listDF (aCons (mVar 3) aNil))) aNil)) aNil)) (gSet 5) (mSeq (mSet 6 (mCalG 4 0 (fun ds _ => ds) m_law_look (aCons (mVar 5) (aCons (mIxD (mIxD (mVar 3) (mVar 5)) (mC (.int 0))) (aCons (mIxD (mIxD (mVar 3) (mVar 5)) (mC (.int 1))) (aCons (mIxD (mIxD (mVar 3) (mVar 5)) (mC (.int 2))) aNil)))) aNil))
    (mDPut (mVar 4) (mVar 5) (mCalG 3 0 (fun ds _ => ds) m_law_with (aCons (mVar 6) (aCons (mC (.str "writs")) (aCons (mFz (mLc [7, 8] (mIterD (mIxD (mVar 6) (mC (.str "writs")))) (gTupM 2 (gsCons (gSet 7) (gsCons (gSet 8) gsNil))) tYesM (mVar 8))) aNil))) aNil))))
    (mSeq (mFzV 4 (mSet 9 (mFz (mBi reprF (aCons (mVar 4) aNil)))))
    (mSeq (mFor (mSrc (fun _ => range1F) (aCons (mC (.int 6)) aNil)) (gSet 10) (mSeq (mSet 11 (mCalG 3 0 (fun ds _ => ds) m_law_cond (aCons (mVar 1) (aCons (mVar 2) (aCons (mC (.int 4)) aNil))) aNil))
    (mSeq (mSet 12 (mCalG 2 0 (fun ds _ => ds) m_law_pick (aCons (mVar 1) (aCons (mFz (mBin addF (mFz (mBi listDF (aCons (mVar 4) aNil))) (mFz (mLst (aCons (mC (.int 0)) (aCons (mC (.int 9)) aNil)))))) aNil)) aNil))
    (mSeq (mSet 13 (mCalG 2 0 (fun ds _ => ds) m_law_get (aCons (mVar 1) (aCons (mC (.int 3)) aNil)) aNil))
    (mSeq (mSet 14 (mCalG 4 0 (fun ds _ => ds) m_law_whom (aCons (mVar 11) (aCons (mVar 4) (aCons (mVar 12) (aCons (mVar 13) aNil)))) aNil))
    (mSeq (mIfS (mNot (mTru (mCalG 2 0 (fun ds _ => ds) m_law_same (aCons (mCalG 2 2 (fun ds es => pickL [0, 1, 2, 3] (ds ++ es)) mtaken (aCons (mVar 11) (aCons (mVar 4) aNil)) (aCons (mVar 12) (aCons (mVar 13) aNil))) (aCons (mVar 14) aNil)) aNil))) (mRet (mC (.bl false))) mNil)
    (mSeq (mFor (mIterD (mVar 4)) (gSet 5) (mIfS (mNot (mTru (mCalG 2 0 (fun ds _ => ds) m_law_same (aCons (mCalG 3 2 (fun ds es => pickL [0, 1, 2, 4, 3] (ds ++ es)) mtakes (aCons (mVar 11) (aCons (mVar 4) (aCons (mVar 5) aNil))) (aCons (mVar 13) (aCons (mVar 12) aNil))) (aCons (mB (mCmp cInD (mVar 5) (mVar 14))) aNil)) aNil))) (mRet (mC (.bl false))) mNil))
    (mIfS (mNot (mTru (mCalG 2 0 (fun ds _ => ds) m_law_same (aCons (mCalG 2 0 (fun ds es => pickL [0, 1, 2, 3] (ds ++ ([.int (0), .non] ++ es))) mtaken (aCons (mVar 11) (aCons (mVar 4) aNil)) aNil) (aCons (mCalG 4 0 (fun ds _ => ds) m_law_whom (aCons (mVar 11) (aCons (mVar 4) (aCons (mC (.int 0)) (aCons (mC .non) aNil)))) aNil) aNil)) aNil))) (mRet (mC (.bl false))) mNil))))))))
    (mRet (mAndV (mB (mCmp cEq (mFz (mBi reprF (aCons (mVar 4) aNil))) (mVar 9))) (mCalG 2 0 (fun ds _ => ds) m_law_same (aCons (mCalG 2 0 (fun ds es => pickL [0, 1, 2, 3] (ds ++ ([.int (0), .non] ++ es))) mtaken (aCons (mTup (aCons (mC (.str "any")) aNil)) (aCons (mFz mDict0) aNil)) aNil) (aCons (mTup aNil) aNil)) aNil))))))))))
noncomputable def mlaw : List D → Hd → Res D := runB 15 blaw
theorem oklaw (T : Txt K w mg) {f : Addr} {fd : FuncData} (Flaw : DefX K mg "law" "law" stlaw [] [] f fd) (Ctakes_3_hand_own : CalG P w K mg base 7 "takes" 3 ["hand", "own"] (fun ds es => pickL [0, 1, 2, 4, 3] (ds ++ es)) mtakes) (Ctaken_2 : CalG P w K mg base 8 "taken" 2 [] (fun ds es => pickL [0, 1, 2, 3] (ds ++ ([.int (0), .non] ++ es))) mtaken) (Ctaken_2_own_hand : CalG P w K mg base 8 "taken" 2 ["own", "hand"] (fun ds es => pickL [0, 1, 2, 3] (ds ++ es)) mtaken) (C_law_bag_1 : CalG P w K mg base 1 "_law_bag" 1 [] (fun ds _ => ds) m_law_bag) (C_law_get_2 : CalG P w K mg base 1 "_law_get" 2 [] (fun ds _ => ds) m_law_get) (C_law_pick_2 : CalG P w K mg base 2 "_law_pick" 2 [] (fun ds _ => ds) m_law_pick) (C_law_same_2 : CalG P w K mg base 5 "_law_same" 2 [] (fun ds _ => ds) m_law_same) (C_law_shuffled_2 : CalG P w K mg base 2 "_law_shuffled" 2 [] (fun ds _ => ds) m_law_shuffled) (C_law_menu_1 : CalG P w K mg base 3 "_law_menu" 1 [] (fun ds _ => ds) m_law_menu) (C_law_cond_3 : CalG P w K mg base 8 "_law_cond" 3 [] (fun ds _ => ds) m_law_cond) (C_law_look_4 : CalG P w K mg base 1 "_law_look" 4 [] (fun ds _ => ds) m_law_look) (C_law_with_3 : CalG P w K mg base 1 "_law_with" 3 [] (fun ds _ => ds) m_law_with) (C_law_whom_4 : CalG P w K mg base 8 "_law_whom" 4 [] (fun ds _ => ds) m_law_whom) (C_law_board_3 : CalG P w K mg base 18 "_law_board" 3 [] (fun ds _ => ds) m_law_board) : FnG P w K mg base (L2.CX P w) 19 f fd ["_law_script"] (spM ⟨K, mg⟩ (["_law_script"] : List Str).length mlaw) := (fn_okX Flaw sclaw fun cdv A outer s H E hr =>
    (s_cons (s_set 1 (e_calG C_law_bag_1 (hr.mono (by decide)) (takes_of rfl rfl rfl rfl) (a_cons (e_var 0) a_nil) k_nil) sclaw.nd)
    (s_cons (s_set 2 (e_calG C_law_menu_1 (hr.mono (by decide)) (takes_of rfl rfl rfl rfl) (a_cons (e_var 1) a_nil) k_nil) sclaw.nd)
    (s_cons (s_set 3 (e_calG C_law_board_3 (hr.mono (by decide)) (takes_of rfl rfl rfl rfl) (a_cons (e_var 1) (a_cons (e_var 2) (a_cons e_int a_nil))) k_nil) sclaw.nd)
    (s_cons (s_set 4 (SO.own e_dict0) sclaw.nd)
    (s_cons (s_for rfl (i_anyD (e_calG C_law_shuffled_2 (hr.mono (by decide)) (takes_of rfl rfl rfl rfl) (a_cons (e_var 1) (a_cons (SO.fz (e_bt (cr_listD rfl) s_listD T.b_list PyProof.Rows.boot_list (a_cons (e_var 3) a_nil))) a_nil)) k_nil)) (g_name 5 sclaw.nd) (s_cons (s_set 6 (e_calG C_law_look_4 (hr.mono (by decide)) (takes_of rfl rfl rfl rfl) (a_cons (e_var 5) (a_cons (e_ixD hr.r (e_ixD hr.r (e_var 3) (e_var 5)) e_int) (a_cons (e_ixD hr.r (e_ixD hr.r (e_var 3) (e_var 5)) e_int) (a_cons (e_ixD hr.r (e_ixD hr.r (e_var 3) (e_var 5)) e_int) a_nil)))) k_nil) sclaw.nd)
    (s_one (s_dput hr.r (e_var 4) (e_var 5) (e_calG C_law_with_3 (hr.mono (by decide)) (takes_of rfl rfl rfl rfl) (a_cons (e_var 6) (a_cons e_str (a_cons (SO.fz (e_lc rfl sclaw.nd (i_anyD (e_ixD hr.r (e_var 6) e_str)) (blkOk_by (own := [("_law_name", 7), ("_law_writ_here", 8)]) (N := Nlaw) (sc := defScope stlaw) (by decide +kernel)) (fun _ _ _ _ _ => (g_tup rfl (gs_cons (gn_name 7 sclaw.nd) (gs_cons (gn_name 8 sclaw.nd) gs_nil)))) (fun _ _ _ _ _ => ts_nil) (fun _ _ _ _ _ => (e_var 8)))) a_nil))) k_nil)))) (passes_of rfl))
    (s_cons (s_frz 4 (s_set 9 (SO.fz (e_bi (cr_repr hr) s_repr T.b_repr PyProof.Rows.boot_repr (a_cons (e_var 4) a_nil))) sclaw.nd))
    (s_cons (s_for rfl (i_range1 T.b_range (a_cons e_int a_nil)) (g_name 10 sclaw.nd) (s_cons (s_set 11 (e_calG C_law_cond_3 (hr.mono (by decide)) (takes_of rfl rfl rfl rfl) (a_cons (e_var 1) (a_cons (e_var 2) (a_cons e_int a_nil))) k_nil) sclaw.nd)
    (s_cons (s_set 12 (e_calG C_law_pick_2 (hr.mono (by decide)) (takes_of rfl rfl rfl rfl) (a_cons (e_var 1) (a_cons (SO.fz (o_add (SO.fz (e_bt (cr_listD rfl) s_listD T.b_list PyProof.Rows.boot_list (a_cons (e_var 4) a_nil))) (SO.fz (e_lst (a_cons e_int (a_cons e_int a_nil)))))) a_nil)) k_nil) sclaw.nd)
    (s_cons (s_set 13 (e_calG C_law_get_2 (hr.mono (by decide)) (takes_of rfl rfl rfl rfl) (a_cons (e_var 1) (a_cons e_int a_nil)) k_nil) sclaw.nd)
    (s_cons (s_set 14 (e_calG C_law_whom_4 (hr.mono (by decide)) (takes_of rfl rfl rfl rfl) (a_cons (e_var 11) (a_cons (e_var 4) (a_cons (e_var 12) (a_cons (e_var 13) a_nil)))) k_nil) sclaw.nd)
    (s_cons (s_if (t_not (t_tru (e_calG C_law_same_2 (hr.mono (by decide)) (takes_of rfl rfl rfl rfl) (a_cons (e_calG Ctaken_2_own_hand (hr.mono (by decide)) (takes_of rfl rfl rfl rfl) (a_cons (e_var 11) (a_cons (e_var 4) a_nil)) (k_cons (e_var 12) (k_cons (e_var 13) k_nil))) (a_cons (e_var 14) a_nil)) k_nil))) (s_one (s_ret e_bl)) s_nil)
    (s_cons (s_for rfl (i_anyD (e_var 4)) (g_name 5 sclaw.nd) (s_one (s_if (t_not (t_tru (e_calG C_law_same_2 (hr.mono (by decide)) (takes_of rfl rfl rfl rfl) (a_cons (e_calG Ctakes_3_hand_own (hr.mono (by decide)) (takes_of rfl rfl rfl rfl) (a_cons (e_var 11) (a_cons (e_var 4) (a_cons (e_var 5) a_nil))) (k_cons (e_var 13) (k_cons (e_var 12) k_nil))) (a_cons (e_inDD hr.r (e_var 5) (e_var 14)) a_nil)) k_nil))) (s_one (s_ret e_bl)) s_nil)) (passes_of rfl))
    (s_one (s_if (t_not (t_tru (e_calG C_law_same_2 (hr.mono (by decide)) (takes_of rfl rfl rfl rfl) (a_cons (e_calG Ctaken_2 (hr.mono (by decide)) (takes_of rfl rfl rfl rfl) (a_cons (e_var 11) (a_cons (e_var 4) a_nil)) k_nil) (a_cons (e_calG C_law_whom_4 (hr.mono (by decide)) (takes_of rfl rfl rfl rfl) (a_cons (e_var 11) (a_cons (e_var 4) (a_cons e_int (a_cons e_non a_nil)))) k_nil) a_nil)) k_nil))) (s_one (s_ret e_bl)) s_nil)))))))) (passes_of rfl))
    (s_one (s_ret (e_and (e_eq hr.r (SO.fz (e_bi (cr_repr hr) s_repr T.b_repr PyProof.Rows.boot_repr (a_cons (e_var 4) a_nil))) (e_var 9)) (e_one (e_calG C_law_same_2 (hr.mono (by decide)) (takes_of rfl rfl rfl rfl) (a_cons (e_calG Ctaken_2 (hr.mono (by decide)) (takes_of rfl rfl rfl rfl) (a_cons (e_tup (a_cons e_str a_nil)) (a_cons (SO.fz e_dict0) a_nil)) k_nil) (a_cons (e_tup a_nil) a_nil)) k_nil)))))))))))))
end
end Law
set_option Elab.async false
set_option linter.all false
set_option maxRecDepth 100000
set_option maxHeartbeats 4000000
namespace Law
open PySem PySem.Spec L2 RZ DD
/-- the bag in the first cell -/
def bagC (cs : List Int) (p n2 n3 n4 n5 : Int) : Cell := .lst [.lst (cs.map .int), .int p, .int n2, .int n3, .int n4, .int n5]
theorem six {α : Type} (a b c d e f : α) : atI [a, b, c, d, e, f] 0 = some a ∧ atI [a, b, c, d, e, f] 1 = some b ∧ atI [a, b, c, d, e, f] 2 = some c ∧ atI [a, b, c, d, e, f] 3 = some d ∧ atI [a, b, c, d, e, f] 4 = some e ∧ atI [a, b, c, d, e, f] 5 = some f := ⟨rfl, rfl, rfl, rfl, rfl, rfl⟩
theorem ix6 : ixN 6 0 = some 0 ∧ ixN 6 1 = some 1 ∧ ixN 6 2 = some 2 ∧ ixN 6 3 = some 3 ∧ ixN 6 4 = some 4 ∧ ixN 6 5 = some 5 := ⟨rfl, rfl, rfl, rfl, rfl, rfl⟩
theorem get1 (cs : List Int) (p n2 n3 n4 n5 sz : Int) (t : Hd) (hp : 0 ≤ p) (h2 : 0 ≤ n2) (h3 : 0 ≤ n3 ∧ n3 < 2147483579) (hs : 0 < sz ∧ sz < 1000000000000000000000000000000) (hc : cs.length ≤ 63) :
    ∃ i p' n2' n3' n4', m_law_get [.ref 0, .int sz] (bagC cs p n2 n3 n4 n5 :: t) = .ok (.int i) (bagC cs p' n2' n3' n4' n5 :: t) ∧ (0 ≤ i ∧ i < sz) ∧ 0 ≤ p' ∧ 0 ≤ n2' ∧ (0 ≤ n3' ∧ n3' < 2147483579) := by
  have e18 : (10 : Int) ^ (18 : Int).toNat = 1000000000000000000 := by decide
  have hz : cs.length ≤ sizeLine := Nat.le_trans hc (by decide)
  have m3 : ∀ x : Int, 0 ≤ x % 2147483579 ∧ x % 2147483579 < 2147483579 := fun x => ⟨Int.emod_nonneg _ (by decide), Int.emod_lt_of_pos _ (by decide)⟩
  have ms : ∀ x : Int, 0 ≤ x % sz ∧ x % sz < sz := fun x => ⟨Int.emod_nonneg _ (by omega), Int.emod_lt_of_pos _ hs.1⟩
  have rng : ∀ x : Int, 0 ≤ x ∧ x < 2147483579 → (-(2 ^ 64) < x ∧ x < 2 ^ 64) := fun x h => by omega
  have rm : ∀ x : Int, (-18446744073709551616 < x % 2147483579 ∧ x % 2147483579 < 18446744073709551616) := fun x => by have := m3 x; omega
  by_cases c1 : n2 < sz
  · by_cases c2 : p < (cs.length : Int)
    · obtain ⟨c, hcell⟩ : ∃ c, atI (cs.map D.int) p = some (.int c) := by
        have hl : p.toNat < cs.length := by omega
        exact ⟨cs[p.toNat], atI_at (j := p.toNat) (by omega) (by simp [hl])⟩
      by_cases c3 : (1000000000000000000 : Int) ≤ c
      · by_cases c4 : sz ≤ c
        · refine ⟨c % sz, p + 1, c / sz, (n3 * 40014 + c % 1000000007 * 9241 + 83) % 2147483579, n4 + 1, ?_, ms _, by omega, Int.ediv_nonneg (by omega) (by omega), m3 _⟩
          unfold m_law_get b_law_get bagC
          simp [six, ix6, lenF, valR, c1, c2, hcell, c3, c4, rng _ h3, hs, e18]
        · let s := (((n3 * 40014 + c % 1000000007 * 9241 + 83) % 2147483579) * 68909 + (n4 + 1) * 30269 + 1000003) % 2147483579
          refine ⟨(s * s / 32771 + s / 41) % sz, p + 1, c, s, n4 + 1, ?_, ms _, by omega, by omega, m3 _⟩
          unfold m_law_get b_law_get bagC
          simp [six, ix6, lenF, valR, c1, c2, hcell, c3, c4, rng _ h3, hs, e18, rm, s]
      · have c5 : ¬ sz ≤ 0 := by omega
        let s := (((n3 * 40014 + c % 1000000007 * 9241 + 83) % 2147483579) * 68909 + (n4 + 1) * 30269 + 1000003) % 2147483579
        refine ⟨(s * s / 32771 + s / 41) % sz, p + 1, 0, s, n4 + 1, ?_, ms _, by omega, by omega, m3 _⟩
        unfold m_law_get b_law_get bagC
        simp [six, ix6, lenF, valR, c1, c2, hcell, c3, c5, rng _ h3, hs, e18, rm, s]
    · have c5 : ¬ sz ≤ n2 := by omega
      let s := (n3 * 68909 + (n4 + 1) * 30269 + 1000003) % 2147483579
      refine ⟨(s * s / 32771 + s / 41) % sz, p, n2, s, n4 + 1, ?_, ms _, hp, h2, m3 _⟩
      unfold m_law_get b_law_get bagC
      simp [six, ix6, lenF, valR, c1, c2, c5, rng _ h3, hs, e18, rm, s]
  · have c4 : sz ≤ n2 := by omega
    refine ⟨n2 % sz, p, n2 / sz, n3, n4 + 1, ?_, ms _, hp, Int.ediv_nonneg (by omega) (by omega), h3⟩
    unfold m_law_get b_law_get bagC
    simp [six, ix6, lenF, valR, c1, c4, hs]
def BagT (t h : Hd) : Prop := ∃ cs p n2 n3 n4 n5, h = bagC cs p n2 n3 n4 n5 :: t ∧ cs.length ≤ 63 ∧ 0 ≤ p ∧ 0 ≤ n2 ∧ (0 ≤ n3 ∧ n3 < 2147483579)
theorem get_ok {t h : Hd} {sz : Int} (b : BagT t h) (hs : 0 < sz ∧ sz < 1000000000000000000000000000000) : ∃ i h', m_law_get [.ref 0, .int sz] h = .ok (.int i) h' ∧ (0 ≤ i ∧ i < sz) ∧ BagT t h' := by
  obtain ⟨cs, p, n2, n3, n4, n5, rfl, hc, hp, h2, h3⟩ := b
  obtain ⟨i, p', n2', n3', n4', e, hi, hp', h2', h3'⟩ := get1 cs p n2 n3 n4 n5 sz t hp h2 h3 hs hc
  exact ⟨i, _, e, hi, _, _, _, _, _, _, rfl, hc, hp', h2', h3'⟩
theorem pick_ok {t h : Hd} {xs : List D} (b : BagT t h) (hz : 0 < xs.length ∧ xs.length < 1000) : ∃ d h', m_law_pick [.ref 0, .lst xs] h = .ok d h' ∧ d ∈ xs ∧ BagT t h' := by
  obtain ⟨i, h', e, hi, b'⟩ := get_ok (sz := xs.length) b (by omega)
  obtain ⟨d, m, ed⟩ := atI_in hi
  exact ⟨d, h', by unfold m_law_pick b_law_pick; simp [e, ed], m, b'⟩
def abc : Str := "abcdefghijklmnopqrstuvwxyz"
theorem abc_ok : abc.length = 26 ∧ sOk abc := by unfold sOk; exact ⟨by decide +kernel, by decide +kernel⟩
theorem letters_ok {t h : Hd} {ρ : DD.Env} {k n : Nat} (b : BagT t h) (e0 : ∀ x, (ρ.set k x)[0]? = some (some (.ref 0))) (e1 : ∀ x, (ρ.set k x)[1]? = some (some (.str abc))) (hn : n ≤ 1000) :
    ∃ (ss : List Str) (h' : Hd), lcGo (fun _ => True) (gSet k) tYesM (mIxD (mVar 1) (mCalG 2 0 (fun ds _ => ds) m_law_get (aCons (mVar 0) (aCons (mC (.int 26)) aNil)) aNil)) ρ (rangeD 0 n) [] h = .ok (ss.map .str) h' ∧ ss.length = n ∧ (∀ s ∈ ss, s.length = 1 ∧ sOk s) ∧ BagT t h' := by
  obtain ⟨ys, h', e, l, p, i⟩ := lcGo_inv (chk := fun _ => True) (g := gSet k) (t := tYesM) (e := mIxD (mVar 1) (mCalG 2 0 (fun ds _ => ds) m_law_get (aCons (mVar 0) (aCons (mC (.int 26)) aNil)) aNil)) (ρ := ρ) (BagT t) (fun d => ∃ s : Str, d = .str s ∧ s.length = 1 ∧ sOk s) (fun _ _ => trivial) (rangeD 0 n) [] h
    (fun d _ h b => by
      obtain ⟨i, h', e, hi, b'⟩ := get_ok (sz := 26) b (by omega)
      obtain ⟨u, eu, lu, ou⟩ := ixF_sign (h := h') (s := abc) (i := i) (by rw [abc_ok.1]; exact hi) (by rw [abc_ok.1]; omega) abc_ok.2
      exact ⟨_, .str u, h', rfl, rfl, by simp [e0, e1, e, eu], b', u, rfl, lu, ou⟩) b (by simpa using sz_small hn)
  obtain ⟨ss, rfl, q⟩ := strs_of ys p
  exact ⟨ss, h', e, by simpa using l, q, i⟩
theorem word_ok {t h : Hd} (b : BagT t h) : ∃ s h', m_law_word [.ref 0] h = .ok (.str s) h' ∧ s.length ≤ 6 ∧ sOk s ∧ BagT t h' := by
  obtain ⟨n, h1, e1, hn, b1⟩ := get_ok (sz := 6) b (by omega)
  obtain ⟨ss, h2, e2, l, p, b2⟩ := letters_ok (ρ := [some (.ref 0), some (.str abc), none]) (k := 2) (n := (1 + n).toNat) b1 (fun _ => rfl) (fun _ => rfl) (by omega)
  have j := join_signs p
  refine ⟨Txt.join "" ss, h2, ?_, by omega, j.2, b2⟩
  have r1 := range1_of (j := 1 + n) (by omega)
  have ej := joinF_signs (h := h2) p (by omega)
  unfold abc at e2
  unfold m_law_word b_law_word
  simp [e1, r1, e2, ej]
theorem BagT.get {t h : Hd} (b : BagT t h) (r : Nat) : h[r + 1]? = t[r]? := by
  obtain ⟨cs, p, n2, n3, n4, n5, rfl, _⟩ := b
  rfl
theorem BagT.len {t h : Hd} (b : BagT t h) : h.length = t.length + 1 := by
  obtain ⟨cs, p, n2, n3, n4, n5, rfl, _⟩ := b
  rfl
theorem BagT.push {t h : Hd} (b : BagT t h) (z : Cell) : BagT (t ++ [z]) (h ++ [z]) := by
  obtain ⟨cs, p, n2, n3, n4, n5, rfl, q⟩ := b
  exact ⟨cs, p, n2, n3, n4, n5, rfl, q⟩
theorem BagT.app {t h : Hd} (b : BagT t h) (z : Hd) : BagT (t ++ z) (h ++ z) := by
  obtain ⟨cs, p, n2, n3, n4, n5, rfl, q⟩ := b
  exact ⟨cs, p, n2, n3, n4, n5, rfl, q⟩
theorem BagT.set {t h : Hd} (b : BagT t h) (r : Nat) (z : Cell) : BagT (t.set r z) (h.set (r + 1) z) := by
  obtain ⟨cs, p, n2, n3, n4, n5, rfl, q⟩ := b
  exact ⟨cs, p, n2, n3, n4, n5, rfl, q⟩
/-- the bag, its tail may have grown behind t -/
def BagE (t h : Hd) : Prop := ∃ e, BagT (t ++ e) h
section
variable {t h : Hd}
theorem BagE.of (b : BagT t h) : BagE t h := ⟨[], by simpa using b⟩
theorem BagE.weak {e : Hd} (b : BagE (t ++ e) h) : BagE t h := let ⟨e2, b⟩ := b; ⟨e ++ e2, by rw [← List.append_assoc]; exact b⟩
theorem BagE.get (b : BagE t h) {r : Nat} (hr : r < t.length) : h[r + 1]? = t[r]? := by
  obtain ⟨e, b⟩ := b
  rw [b.get, List.getElem?_append_left hr]
theorem BagE.set (b : BagE t h) {r : Nat} (hr : r < t.length) (z : Cell) : BagE (t.set r z) (h.set (r + 1) z) := by
  obtain ⟨e, b⟩ := b
  exact ⟨e, by have := b.set r z; rwa [List.set_append_left _ _ hr] at this⟩
theorem BagE.app (b : BagE t h) (z : Hd) : BagE t (h ++ z) := by
  obtain ⟨e, b⟩ := b
  exact ⟨e ++ z, by rw [← List.append_assoc]; exact b.app z⟩
/-- a new cell -/
theorem BagE.new (b : BagE t h) (z : Cell) : ∃ e, h.length = (t ++ e).length + 1 ∧ BagE (t ++ e ++ [z]) (h ++ [z]) := by
  obtain ⟨e, b⟩ := b
  exact ⟨e, b.len, .of (b.push z)⟩
theorem getE {sz : Int} (b : BagE t h) (hs : 0 < sz ∧ sz < 1000000000000000000000000000000) : ∃ i h', m_law_get [.ref 0, .int sz] h = .ok (.int i) h' ∧ (0 ≤ i ∧ i < sz) ∧ BagE t h' := by
  obtain ⟨e, b⟩ := b
  obtain ⟨i, h', q, hi, b'⟩ := get_ok b hs
  exact ⟨i, h', q, hi, e, b'⟩
theorem pickE {xs : List D} (b : BagE t h) (hz : 0 < xs.length ∧ xs.length < 1000) : ∃ d h', m_law_pick [.ref 0, .lst xs] h = .ok d h' ∧ d ∈ xs ∧ BagE t h' := by
  obtain ⟨e, b⟩ := b
  obtain ⟨i, h', q, hi, b'⟩ := pick_ok b hz
  exact ⟨i, h', q, hi, e, b'⟩
theorem wordE (b : BagE t h) : ∃ s h', m_law_word [.ref 0] h = .ok (.str s) h' ∧ s.length ≤ 6 ∧ sOk s ∧ BagE t h' := by
  obtain ⟨e, b⟩ := b
  obtain ⟨i, h', q, l, o, b'⟩ := word_ok b
  exact ⟨i, h', q, l, o, e, b'⟩
end
/-! ## the menu -/
def MenuL (ws : List Str) : Prop := 0 < ws.length ∧ ws.length ≤ 10 ∧ ∀ s ∈ ws, okS 20 s = true
theorem menu_pick {ws : List Str} {t h : Hd} (b : BagE t h) (m : MenuL ws) : ∃ s h', m_law_pick [.ref 0, .lst (ws.map .str)] h = .ok (.str s) h' ∧ okS 20 s = true ∧ BagE t h' := by
  have m1 := m.1
  have m2 := m.2.1
  obtain ⟨d, h', e, hd, b'⟩ := pickE (xs := ws.map .str) b (by simp only [List.length_map]; omega)
  obtain ⟨s, hs, rfl⟩ := List.mem_map.mp hd
  exact ⟨s, h', e, m.2.2 s hs, b'⟩
theorem popF_at {h : Hd} {r : Nat} {xs : List D} {i : Int} (e : h[r]? = some (.lst xs)) (hi : 0 ≤ i ∧ i < (xs.length : Int)) (hz : xs.length ≤ 1000) :
    ∃ d, d ∈ xs ∧ popF (.ref r) [.int i] h = .ok (.val d) (h.set r (.lst (xs.eraseIdx i.toNat))) := by
  have hl : i.toNat < xs.length := by omega
  refine ⟨xs[i.toNat], List.getElem_mem hl, ?_⟩
  have ei : ixN xs.length i = some i.toNat := by
    unfold ixN
    rw [if_pos (by omega), if_pos (by omega)]
  have eg : xs[i.toNat]? = some xs[i.toNat] := by simp [hl]
  simp only [popF, e]
  rw [if_pos (by omega), ei]
  simp only [eg]
theorem shuffled_ok {xs : List D} {t h : Hd} (b : BagE t h) (hz : xs.length ≤ 100) : ∃ ys h', m_law_shuffled [.ref 0, .lst xs] h = .ok (.lst ys) h' ∧ ys.length = xs.length ∧ (∀ y ∈ ys, y ∈ xs) ∧ BagE t h' := by
  obtain ⟨e, hl, b0⟩ := b.new (.lst xs)
  obtain ⟨ys, h2, e2, l2, p2, rest, _, _, _, b2⟩ := lcGo_invN (chk := fun _ => True) (g := gSet 3) (t := tYesM) (e := mFz (mMeth isOwnL popF (mVar 2) (aCons (mCalG 2 0 (fun ds _ => ds) m_law_get (aCons (mVar 0) (aCons (mFz (mBi lenF (aCons (mVar 2) aNil))) aNil)) aNil) aNil)))
    (ρ := [some (.ref 0), some (.lst xs), some (.ref h.length), none])
    (fun n h' => ∃ rest : List D, rest.length = n ∧ n ≤ 100 ∧ (∀ y ∈ rest, y ∈ xs) ∧ BagE (t ++ e ++ [.lst rest]) h') (fun d => d ∈ xs) (fun _ _ _ => trivial) xs [] (h ++ [.lst xs])
    (fun d m n h1 ⟨rest, hr, hn, hm, b1⟩ => by
        obtain ⟨i, h2, e2, hi, b2⟩ := getE (sz := rest.length) b1 (by omega)
        have g1 : h1[h.length]? = some (.lst rest) := by rw [hl, b1.get (by simp)]; simp
        have g2 : h2[h.length]? = some (.lst rest) := by rw [hl, b2.get (by simp)]; simp
        obtain ⟨y, my, ep⟩ := popF_at (r := h.length) g2 hi (by omega)
        have io : isOwnL h1 (.ref h.length) = true := by simp only [isOwnL, g1]
        refine ⟨_, y, h2.set h.length (.lst (rest.eraseIdx i.toNat)), rfl, rfl, ?_, ⟨rest.eraseIdx i.toNat, ?_, by omega, fun z mz => hm z (List.mem_of_mem_eraseIdx mz), ?_⟩, hm y my⟩
        · simp [io, lenF_ref g1, e2, ep]
        · rw [List.length_eraseIdx]; rw [if_pos (by omega)]; omega
        · have := b2.set (r := (t ++ e).length) (by simp) (.lst (rest.eraseIdx i.toNat))
          rw [← hl] at this
          simpa using this) ⟨xs, rfl, hz, fun y m => m, b0⟩ (by simpa using sz_small (n := xs.length) (by omega))
  refine ⟨ys, h2, ?_, l2, p2, BagE.weak (e := e ++ [.lst rest]) (by simpa using b2)⟩
  unfold m_law_shuffled b_law_shuffled
  simp at e2
  simp [e2]
theorem words_ok {ws : List Str} {t h : Hd} (b : BagE t h) (m : MenuL ws) : ∃ (us : List Str) (h' : Hd), m_law_words [.ref 0, .lst (ws.map .str)] h = .ok (.tup (us.map .str)) h' ∧ us.length ≤ 10 ∧ (∀ s ∈ us, okS 20 s = true) ∧ BagE t h' := by
  obtain ⟨ys, h1, e1, l1, p1, b1⟩ := lcGo_invB (chk := fun _ => True) (g := gSet 2) (t := mCmp cEq (mCalG 2 0 (fun ds _ => ds) m_law_get (aCons (mVar 0) (aCons (mC (.int 3)) aNil)) aNil) (mC (.int 0))) (e := mVar 2)
    (ρ := [some (.ref 0), some (.lst (ws.map .str)), none]) (BagE t) (fun d => ∃ s : Str, d = .str s ∧ okS 20 s = true) (fun _ _ => trivial) (ws.map .str) [] h
    (fun d md h b => by
      obtain ⟨s, hs, rfl⟩ := List.mem_map.mp md
      obtain ⟨i, h', e, hi, b'⟩ := getE (sz := 3) b (by omega)
      exact ⟨_, decide (i = 0), h', rfl, by simp [e], b', fun _ => ⟨.str s, h', by simp, b', s, rfl, m.2.2 s hs⟩⟩) b (by
        have := m.2.1
        simpa using sz_small (n := ws.length) (by omega))
  obtain ⟨us, rfl, q⟩ := strs_of ys p1
  have l2 : us.length ≤ 10 := by have := m.2.1; simp at l1; omega
  have es : ssF (.lst (us.map .str)) h1 = .ok (.new (.lst ((sd ltS us).map .str))) h1 := ssF_strs rfl (by omega)
  refine ⟨sd ltS us, h1, ?_, Nat.le_trans (sd_len _ _) l2, fun s ms => q s ((sd_mem ordS).mp ms), b1⟩
  unfold m_law_words b_law_words
  simp at e1
  simp [e1, es]
theorem cutS_to5 (s : Str) : (cutS s none (some 5)).length ≤ 5 := by
  unfold cutS Str.length
  rw [HT.sIx_none, show (some 5 : Option Int) = some ((5 : Nat) : Int) from rfl, HT.sIx_nat]
  simp
  omega
/-- a word of a menu -/
def MenuW (s : Str) : Prop := s ∈ [("a" : Str), "ab", "any", "elf", "hand", "sixsix", "zz"] ∨ ∃ z : Str, z.length ≤ 5 ∧ s = z ++ "x"
theorem menu_ok {t h : Hd} (b : BagE t h) : ∃ (ws : List Str) (h' : Hd), m_law_menu [.ref 0] h = .ok (.lst (ws.map .str)) h' ∧ MenuL ws ∧ ws.length = 3 ∧ (∀ s ∈ ws, MenuW s) ∧ BagE t h' := by
  obtain ⟨i, h1, e1, hi, b1⟩ := getE (sz := 3) b (by omega)
  have ok7 : ∀ s ∈ [("a" : Str), "ab", "any", "elf", "hand", "sixsix", "zz"], okS 20 s = true := by decide +kernel
  have fin : ∀ (ps : List Str) (h : Hd), BagE t h → 3 ≤ ps.length → ps.length ≤ 10 → (∀ s ∈ ps, okS 20 s = true ∧ MenuW s) → ∃ (ws : List Str) (h' : Hd), m_law_shuffled [.ref 0, .lst (ps.map .str)] h = .ok (.lst (ws.map .str)) h' ∧ MenuL (ws.take 3) ∧ (ws.take 3).length = 3 ∧ (∀ s ∈ ws.take 3, MenuW s) ∧ BagE t h' := by
    intro ps h b h3 h10 ho
    obtain ⟨ys, h', e, l, p, b'⟩ := shuffled_ok (xs := ps.map .str) b (by simp; omega)
    obtain ⟨ws, rfl, q⟩ := strs_of (p := fun s => okS 20 s = true ∧ MenuW s) ys (fun y m => by
      obtain ⟨s, hs, rfl⟩ := List.mem_map.mp (p y m)
      exact ⟨s, rfl, ho s hs⟩)
    have l' : ws.length = ps.length := by simpa using l
    have l3 : (ws.take 3).length = 3 := by rw [List.length_take]; omega
    exact ⟨ws, h', e, ⟨by omega, by omega, fun s ms => (q s (List.mem_of_mem_take ms)).1⟩, l3, fun s ms => (q s (List.mem_of_mem_take ms)).2, b'⟩
  have ec : ∀ ws : List Str, cutL (ws.map D.str) none (some 3) = (ws.take 3).map .str := fun ws => by
    rw [show (some 3 : Option Int) = some ((3 : Nat) : Int) from rfl, cutL_to, List.map_take]
  by_cases c : i = 0
  · obtain ⟨s, h2, e2, l2, o2, b2⟩ := wordE b1
    have z : s.length ≤ sizeLine := sz_small (by omega)
    have ls := cutS_len s none (some 5)
    have os := cutS_ok none (some 5) o2
    have lx : ("x" : Str).length = 1 ∧ sOk "x" := by unfold sOk; decide +kernel
    have z1 : (cutS s none (some 5)).length + ("x" : Str).length ≤ sizeLine := sz_small (by omega)
    obtain ⟨ws, h3, e3, m3, l3, w3, b3⟩ := fin [("a" : Str), "ab", "any", "elf", cutS s none (some 5) ++ "x"] h2 b2 (by simp) (by simp) (by
      intro u mu
      simp only [List.mem_cons, List.not_mem_nil, or_false] at mu
      rcases mu with rfl | rfl | rfl | rfl | rfl
      · exact ⟨ok7 _ (by simp), .inl (by simp)⟩
      · exact ⟨ok7 _ (by simp), .inl (by simp)⟩
      · exact ⟨ok7 _ (by simp), .inl (by simp)⟩
      · exact ⟨ok7 _ (by simp), .inl (by simp)⟩
      · have o3 := sOk_app os lx.2
        unfold sOk at o3
        refine ⟨?_, .inr ⟨_, ?_, rfl⟩⟩
        · simp only [okS, o3, app_len, lx.1, Bool.and_true, decide_eq_true_eq]
          omega
        · exact cutS_to5 s)
    refine ⟨ws.take 3, h3, ?_, m3, l3, w3, b3⟩
    have e5 : cutL [D.str "a", .str "ab", .str "any", .str "elf", .str "hand", .str "sixsix", .str "zz"] none (some 4) = [D.str "a", .str "ab", .str "any", .str "elf"] := rfl
    unfold m_law_menu b_law_menu
    simp at e3
    simp [e1, c, e2, slF_str, z, z1, e5, e3, ec]
  · obtain ⟨ws, h3, e3, m3, l3, w3, b3⟩ := fin [("a" : Str), "ab", "any", "elf", "hand", "sixsix", "zz"] h1 b1 (by simp) (by simp) (fun s ms => ⟨ok7 s ms, .inl ms⟩)
    refine ⟨ws.take 3, h3, ?_, m3, l3, w3, b3⟩
    unfold m_law_menu b_law_menu
    simp at e3
    simp [e1, c, e3, ec]
end Law
set_option Elab.async false
set_option linter.all false
set_option maxRecDepth 100000
set_option maxHeartbeats 4000000
namespace Law
open PySem PySem.Spec L2 RZ DD
/-! ## the shapes of what is made -/
inductive CondS (ws : List Str) : Nat → D → Prop
  | any (k : Nat) : CondS ws k (.tup [.str "any"])
  | self (k : Nat) : CondS ws k (.tup [.str "self"])
  | other (k : Nat) : CondS ws k (.tup [.str "other"])
  | mine (k : Nat) : CondS ws k (.tup [.str "mine"])
  | kind (k : Nat) {w : Str} (h : w ∈ ws) : CondS ws k (.tup [.str "kind", .str w])
  | colour (k : Nat) {w : Str} (h : w ∈ ws) : CondS ws k (.tup [.str "colour", .str w])
  | least (k : Nat) {i : Int} (h : -1 ≤ i ∧ i ≤ 4) : CondS ws k (.tup [.str "least", .int i])
  | not {k : Nat} {c : D} (h : CondS ws k c) : CondS ws (k + 1) (.tup [.str "not", c])
  | both {k : Nat} {c d : D} (h : CondS ws k c) (g : CondS ws k d) : CondS ws (k + 1) (.tup [.str "both", c, d])
  | either {k : Nat} {c d : D} (h : CondS ws k c) (g : CondS ws k d) : CondS ws (k + 1) (.tup [.str "either", c, d])
def WordsS (ws us : List Str) : Prop := us.length ≤ ws.length ∧ (∀ u ∈ us, u ∈ ws) ∧ us = sd ltS us
inductive ChangeS (ws : List Str) : Int → D → Prop
  | hand {i : Int} (h : 0 ≤ i ∧ i < 2) : ChangeS ws 2 (.tup [.str "hand", .int i])
  | ours : ChangeS ws 2 (.tup [.str "ours"])
  | read {w v : Str} (h : w ∈ ws) (g : v ∈ ws) : ChangeS ws 3 (.tup [.str "read", .str w, .str v])
  | be {us : List Str} (h : WordsS ws us) : ChangeS ws 4 (.tup [.str "be", .tup (us.map .str)])
  | also {w : Str} (h : w ∈ ws) : ChangeS ws 4 (.tup [.str "also", .str w])
  | hue {us : List Str} (h : WordsS ws us) : ChangeS ws 5 (.tup [.str "hue", .tup (us.map .str)])
  | tint {w : Str} (h : w ∈ ws) : ChangeS ws 5 (.tup [.str "tint", .str w])
  | bare : ChangeS ws 6 (.tup [.str "bare"])
  | size {i j : Int} (h : 0 ≤ i ∧ i ≤ 4) (g : 1 ≤ j ∧ j ≤ 4) : ChangeS ws 7 (.tup [.str "size", .int i, .int j])
  | more {i j : Int} (h : -1 ≤ i ∧ i ≤ 2) (g : -2 ≤ j ∧ j ≤ 2) : ChangeS ws 8 (.tup [.str "more", .int i, .int j])
  | each {c : D} {i j : Int} (c2 : CondS ws 1 c) (h : -1 ≤ i ∧ i ≤ 2) (g : -2 ≤ j ∧ j ≤ 2) : ChangeS ws 8 (.tup [.str "each", c, .int i, .int j])
  | turn : ChangeS ws 9 (.tup [.str "turn"])
def wayL (w : Str) : List Str := if w = "go" then ["none", "aside", "mark", "strike"] else if w = "fall" then ["aside"] else if w = "strike" then ["none", "twice", "less", "mark"] else ["none", "twice", "less"]
inductive WayS (w : Str) : D → Prop
  | bare {f : Str} (h : f ∈ wayL w) (g : ¬ (f = "less" ∨ f = "mark" ∨ f = "strike")) : WayS w (.tup [.str f])
  | much {f : Str} {n : Int} (h : f ∈ wayL w) (g : f = "less" ∨ f = "mark" ∨ f = "strike") (l : 1 ≤ n ∧ n ≤ 4) : WayS w (.tup [.str f, .int n])
inductive WhomS (ws : List Str) : D → Prop
  | it : WhomS ws (.tup [.str "it"])
  | cond {c : D} (h : CondS ws 1 c) : WhomS ws c
inductive ActS (ws : List Str) : D → Prop
  | strike {c : D} {n : Int} (h : WhomS ws c) (l : 1 ≤ n ∧ n ≤ 3) : ActS ws (.tup [.str "strike", c, .int n])
  | mark {c : D} {n : Int} (h : WhomS ws c) (l : 1 ≤ n ∧ n ≤ 3) : ActS ws (.tup [.str "mark", c, .int n])
  | go {c : D} (h : WhomS ws c) : ActS ws (.tup [.str "go", c])
  | last {c d : D} {L : Int} (h : CondS ws 1 c) (g : ChangeS ws L d) (l : L ∈ [(2 : Int), 3, 4, 6, 7, 8, 9]) : ActS ws (.tup [.str "last", c, d])
/-- a row of changes; N: what may be gained -/
inductive RowS (ws : List Str) (N : D → Prop) : List Int → List D → Prop
  | nil : RowS ws N [] []
  | change {L : Int} {Ls : List Int} {x : D} {xs : List D} (h : ChangeS ws L x) (r : RowS ws N Ls xs) : RowS ws N (L :: Ls) (x :: xs)
  | gain {Ls : List Int} {x : D} {xs : List D} (h : N x) (r : RowS ws N Ls xs) : RowS ws N (6 :: Ls) (.tup [.str "gain", x] :: xs)
inductive StandS (ws : List Str) (N : D → Prop) : D → Prop
  | mk {c : D} {Ls : List Int} {xs : List D} (h : CondS ws 1 c) (r : RowS ws N Ls xs) (l : 1 ≤ Ls.length ∧ Ls.length ≤ 3) (s : Ls = sd ltI Ls) (m : ∀ L ∈ Ls, L ∈ [(2 : Int), 3, 4, 5, 6, 7, 8, 9]) : StandS ws N (.tup [.str "stand", c, .tup xs])
inductive WritS (ws : List Str) (N : D → Prop) : D → Prop
  | stand {d : D} (h : StandS ws N d) : WritS ws N d
  | instead {w : Str} {c y : D} (hw : w ∈ [("go" : Str), "fall", "strike", "mark"]) (h : CondS ws 1 c) (g : WayS w y) : WritS ws N (.tup [.str "instead", .str w, c, y])
  | when {w : Str} {c a : D} (hw : w ∈ [("come" : Str), "go", "strike", "mark"]) (h : CondS ws 1 c) (g : ActS ws a) : WritS ws N (.tup [.str "when", .str w, c, a])
def noGain : D → Prop := fun _ => False
def WritF (ws : List Str) : D → Prop := WritS ws noGain
def WritT (ws : List Str) : D → Prop := WritS ws (WritF ws)
theorem RowS.len {ws : List Str} {N : D → Prop} : ∀ {Ls : List Int} {xs : List D}, RowS ws N Ls xs → Ls.length = xs.length
  | _, _, .nil => rfl
  | _, _, .change _ r => by simp [r.len]
  | _, _, .gain _ r => by simp [r.len]
theorem RowS.snoc {ws : List Str} {N : D → Prop} {L : Int} {x : D} (h : ChangeS ws L x) : ∀ {Ls : List Int} {xs : List D}, RowS ws N Ls xs → RowS ws N (Ls ++ [L]) (xs ++ [x])
  | _, _, .nil => .change h .nil
  | _, _, .change q r => .change q (r.snoc h)
  | _, _, .gain q r => .gain q (r.snoc h)
theorem RowS.snocG {ws : List Str} {N : D → Prop} {x : D} (h : N x) : ∀ {Ls : List Int} {xs : List D}, RowS ws N Ls xs → RowS ws N (Ls ++ [6]) (xs ++ [.tup [.str "gain", x]])
  | _, _, .nil => .gain h .nil
  | _, _, .change q r => .change q (r.snocG h)
  | _, _, .gain q r => .gain q (r.snocG h)
/-! ## the makers -/
theorem pickW {ws : List Str} {t h : Hd} (b : BagE t h) (m : MenuL ws) : ∃ s h', m_law_pick [.ref 0, .lst (ws.map .str)] h = .ok (.str s) h' ∧ s ∈ ws ∧ BagE t h' := by
  have m1 := m.1
  have m2 := m.2.1
  obtain ⟨d, h', e, hd, b'⟩ := pickE (xs := ws.map .str) b (by simp only [List.length_map]; omega)
  obtain ⟨s, hs, rfl⟩ := List.mem_map.mp hd
  exact ⟨s, h', e, hs, b'⟩
theorem wordsS {ws : List Str} {t h : Hd} (b : BagE t h) (m : MenuL ws) : ∃ (us : List Str) (h' : Hd), m_law_words [.ref 0, .lst (ws.map .str)] h = .ok (.tup (us.map .str)) h' ∧ WordsS ws us ∧ BagE t h' := by
  obtain ⟨ys, h1, e1, l1, p1, b1⟩ := lcGo_invB (chk := fun _ => True) (g := gSet 2) (t := mCmp cEq (mCalG 2 0 (fun ds _ => ds) m_law_get (aCons (mVar 0) (aCons (mC (.int 3)) aNil)) aNil) (mC (.int 0))) (e := mVar 2)
    (ρ := [some (.ref 0), some (.lst (ws.map .str)), none]) (BagE t) (fun d => ∃ s : Str, d = .str s ∧ s ∈ ws) (fun _ _ => trivial) (ws.map .str) [] h
    (fun d md h b => by
      obtain ⟨s, hs, rfl⟩ := List.mem_map.mp md
      obtain ⟨i, h', e, hi, b'⟩ := getE (sz := 3) b (by omega)
      exact ⟨_, decide (i = 0), h', rfl, by simp [e], b', fun _ => ⟨.str s, h', by simp, b', s, rfl, hs⟩⟩) b (by
        have := m.2.1
        simpa using sz_small (n := ws.length) (by omega))
  obtain ⟨us, rfl, q⟩ := strs_of ys p1
  have l2 : us.length ≤ ws.length := by simpa using l1
  have es : ssF (.lst (us.map .str)) h1 = .ok (.new (.lst ((sd ltS us).map .str))) h1 := ssF_strs rfl (by have := m.2.1; omega)
  refine ⟨sd ltS us, h1, ?_, ⟨Nat.le_trans (sd_len _ _) l2, fun s ms => q s ((sd_mem ordS).mp ms), ?_⟩, b1⟩
  · unfold m_law_words b_law_words
    simp at e1
    simp [e1, es]
  · exact rise_ext ordS (sd_rise ordS us) (sd_rise ordS _) fun a => (sd_mem ordS).symm
theorem condS {ws : List Str} (m : MenuL ws) : ∀ (k n : Nat) (t h : Hd), k ≤ n → BagE t h → ∃ d h', r_law_cond (n + 1) [.ref 0, .lst (ws.map .str), .int (k + 1 : Nat)] h = .ok d h' ∧ CondS ws k d ∧ BagE t h' := by
  have tail : ∀ (k : Nat) (t h : Hd), BagE t h → ∃ (w : Str) (i : Int) (d : D) (h2 h3 h4 : Hd), m_law_pick [.ref 0, .lst (ws.map .str)] h = .ok (.str w) h2 ∧ m_law_get [.ref 0, .int 6] h2 = .ok (.int i) h3 ∧
      m_law_pick [.ref 0, .lst [.tup [.str "any"], .tup [.str "self"], .tup [.str "other"], .tup [.str "mine"], .tup [.str "kind", .str w], .tup [.str "kind", .str w], .tup [.str "colour", .str w], .tup [.str "least", .int (i - 1)]]] h3 = .ok d h4 ∧ CondS ws k d ∧ BagE t h4 := fun k t h b => by
    obtain ⟨w, h2, e2, ow, b2⟩ := pickW b m
    obtain ⟨i, h3, e3, hi, b3⟩ := getE (sz := 6) b2 (by omega)
    obtain ⟨d, h4, e4, hd, b4⟩ := pickE (xs := [.tup [.str "any"], .tup [.str "self"], .tup [.str "other"], .tup [.str "mine"], .tup [.str "kind", .str w], .tup [.str "kind", .str w], .tup [.str "colour", .str w], .tup [.str "least", .int (i - 1)]]) b3 (by simp)
    refine ⟨w, i, d, h2, h3, h4, e2, e3, e4, ?_, b4⟩
    simp only [List.mem_cons, List.not_mem_nil, or_false] at hd
    rcases hd with rfl | rfl | rfl | rfl | rfl | rfl | rfl | rfl
    · exact .any k
    · exact .self k
    · exact .other k
    · exact .mine k
    · exact .kind k ow
    · exact .kind k ow
    · exact .colour k ow
    · exact .least k (by omega)
  intro k
  induction k with
  | zero =>
    intro n t h _ b
    obtain ⟨w, i, d, h2, h3, h4, e2, e3, e4, pq, b4⟩ := tail 0 t h b
    refine ⟨d, h4, ?_, pq, b4⟩
    show runB 8 (b_law_cond (r_law_cond n)) _ _ = _
    unfold b_law_cond
    simp [e2, e3, e4]
  | succ k ih =>
    intro n t h hn b
    have ck' : (1 : Int) < (k : Int) + 1 + 1 := by omega
    obtain ⟨j, h1, e1, hj, b1⟩ := getE (sz := 4) b (by omega)
    by_cases cj : j = 0
    · obtain ⟨f, h2, e2, hf, b2⟩ := pickE (xs := [.str "not", .str "both", .str "either"]) b1 (by simp)
      obtain ⟨p, rfl⟩ : ∃ p, n = p + 1 := ⟨n - 1, by omega⟩
      have ek : ((k : Int) + 1 + 1 - 1) = (k : Int) + 1 := by omega
      obtain ⟨ys, h3, e3, l3, p3, b3⟩ := lcGo_inv (chk := fun _ => True) (g := gSet 5) (t := tYesM) (e := mCalG 3 0 (fun ds _ => ds) (r_law_cond (p + 1)) (aCons (mVar 0) (aCons (mVar 1) (aCons (mFz (mBin subF (mVar 2) (mC (.int 1)))) aNil))) aNil)
        (ρ := [some (.ref 0), some (.lst (ws.map .str)), some (.int ((k : Int) + 1 + 1)), some f, none, none, none, none]) (BagE t) (CondS ws k) (fun _ _ => trivial) (rangeD 0 2) [] h2
        (fun d _ h b => by
          obtain ⟨d, h', e, q, b'⟩ := ih p t h (by omega) b
          simp at e
          exact ⟨_, d, h', rfl, rfl, by simp [ek, e], b', q⟩) b2 (by simpa using sz_small (n := 2) (by omega))
      obtain ⟨y1, y2, rfl⟩ := len2 (l3.trans (by simp))
      have r2 := range1_of (j := 2) (by omega)
      have c1 : cutL [y1, y2] (some 1) none = [y2] := rfl
      have c0 : cutL [y1, y2] (some 0) none = [y1, y2] := rfl
      have q1 := p3 y1 (by simp)
      have q2 := p3 y2 (by simp)
      simp only [List.nil_append] at e3
      simp only [List.mem_cons, List.not_mem_nil, or_false] at hf
      rcases hf with rfl | rfl | rfl
      · refine ⟨.tup [.str "not", y2], h3, ?_, .not q2, b3⟩
        show runB 8 (b_law_cond (r_law_cond (p + 1))) _ _ = _
        unfold b_law_cond
        simp [ck', e1, cj, e2, r2, e3, c1, c0, intF]
      · refine ⟨.tup [.str "both", y1, y2], h3, ?_, .both q1 q2, b3⟩
        show runB 8 (b_law_cond (r_law_cond (p + 1))) _ _ = _
        unfold b_law_cond
        simp [ck', e1, cj, e2, r2, e3, c1, c0, intF, ofS_inj]
      · refine ⟨.tup [.str "either", y1, y2], h3, ?_, .either q1 q2, b3⟩
        show runB 8 (b_law_cond (r_law_cond (p + 1))) _ _ = _
        unfold b_law_cond
        simp [ck', e1, cj, e2, r2, e3, c1, c0, intF, ofS_inj]
    · obtain ⟨w, i, d, h2, h3, h4, e2, e3, e4, pq, b4⟩ := tail (k + 1) t h1 b1
      refine ⟨d, h4, ?_, pq, b4⟩
      show runB 8 (b_law_cond (r_law_cond n)) _ _ = _
      unfold b_law_cond
      simp [ck', e1, cj, e2, e3, e4]
theorem condS2 {ws : List Str} {t h : Hd} (b : BagE t h) (m : MenuL ws) : ∃ d h', m_law_cond [.ref 0, .lst (ws.map .str), .int 2] h = .ok d h' ∧ CondS ws 1 d ∧ BagE t h' := condS m 1 4 t h (by omega) b
theorem changeS {ws : List Str} {t h : Hd} {L : Int} (b : BagE t h) (m : MenuL ws) (hL : L ∈ [(2 : Int), 3, 4, 5, 6, 7, 8, 9]) : ∃ d h', m_law_change [.ref 0, .lst (ws.map .str), .int L] h = .ok d h' ∧ ChangeS ws L d ∧ BagE t h' := by
  obtain ⟨w, h1, e1, ow, b1⟩ := pickW b m
  obtain ⟨v, h2, e2, ov, b2⟩ := pickW b1 m
  obtain ⟨i, h3, e3, hi, b3⟩ := getE (sz := 5) b2 (by omega)
  obtain ⟨j, h4, e4, hj, b4⟩ := getE (sz := 4) b3 (by omega)
  have last : ∀ (xs : List D) (h : Hd), BagE t h → 0 < xs.length ∧ xs.length < 1000 → (∀ x ∈ xs, ChangeS ws L x) → ∃ d h', m_law_pick [.ref 0, .lst xs] h = .ok d h' ∧ ChangeS ws L d ∧ BagE t h' := fun xs h b l p => by
    obtain ⟨d, h', e, hd, b'⟩ := pickE b l
    exact ⟨d, h', e, p d hd, b'⟩
  have one : ∀ (x : D) (h : Hd), BagE t h → ChangeS ws L x → ∃ d h', m_law_pick [.ref 0, .lst [x]] h = .ok d h' ∧ ChangeS ws L d ∧ BagE t h' := fun x h b p => last [x] h b (by simp) (by simpa using p)
  have two : ∀ (x y : D) (h : Hd), BagE t h → ChangeS ws L x → ChangeS ws L y → ∃ d h', m_law_pick [.ref 0, .lst [x, y]] h = .ok d h' ∧ ChangeS ws L d ∧ BagE t h' := fun x y h b p q => last [x, y] h b (by simp) (by simp only [List.mem_cons, List.not_mem_nil, or_false]; rintro z (rfl | rfl); exact p; exact q)
  have b45 : ∀ x y z : Int, cInX (.int x) (.tup [.int y, .int z]) = fun h => .ok (y == x || (z == x)) h := fun x y z => by
    funext h
    rw [cInX_flat rfl rfl]
    simp [inFlat, eqFlat]
  unfold m_law_change b_law_change
  simp only [List.mem_cons, List.not_mem_nil, or_false] at hL
  rcases hL with rfl | rfl | rfl | rfl | rfl | rfl | rfl | rfl
  · obtain ⟨d, h', e, q, b'⟩ := two (.tup [.str "hand", .int (i % 2)]) (.tup [.str "ours"]) h4 b4 (.hand ⟨Int.emod_nonneg _ (by decide), Int.emod_lt_of_pos _ (by decide)⟩) .ours
    exact ⟨d, h', by simp [e1, e2, e3, e4, b45, e], q, b'⟩
  · obtain ⟨d, h', e, q, b'⟩ := one (.tup [.str "read", .str w, .str v]) h4 b4 (.read ow ov)
    exact ⟨d, h', by simp [e1, e2, e3, e4, b45, e], q, b'⟩
  · obtain ⟨us, h5, e5, o5, b5⟩ := wordsS b4 m
    obtain ⟨d, h', e, q, b'⟩ := two (.tup [.str "be", .tup (us.map .str)]) (.tup [.str "also", .str w]) h5 b5 (.be o5) (.also ow)
    exact ⟨d, h', by simp [e1, e2, e3, e4, b45, e5, at0, e], q, b'⟩
  · obtain ⟨us, h5, e5, o5, b5⟩ := wordsS b4 m
    obtain ⟨d, h', e, q, b'⟩ := two (.tup [.str "hue", .tup (us.map .str)]) (.tup [.str "tint", .str w]) h5 b5 (.hue o5) (.tint ow)
    exact ⟨d, h', by simp [e1, e2, e3, e4, b45, e5, at1, e], q, b'⟩
  · obtain ⟨d, h', e, q, b'⟩ := one (.tup [.str "bare"]) h4 b4 .bare
    exact ⟨d, h', by simp [e1, e2, e3, e4, b45, at0, e], q, b'⟩
  · obtain ⟨d, h', e, q, b'⟩ := one (.tup [.str "size", .int i, .int (j - 1 + 2)]) h4 b4 (.size (by omega) (by omega))
    exact ⟨d, h', by simp [e1, e2, e3, e4, b45, at1, e], q, b'⟩
  · obtain ⟨cd, h5, e5, p5, b5⟩ := condS2 b4 m
    obtain ⟨d, h', e, q, b'⟩ := two (.tup [.str "more", .int (j - 1), .int (i - 2)]) (.tup [.str "each", cd, .int (j - 1), .int (i - 2)]) h5 b5 (.more (by omega) (by omega)) (.each p5 (by omega) (by omega))
    exact ⟨d, h', by simp [e1, e2, e3, e4, b45, e5, e], q, b'⟩
  · obtain ⟨d, h', e, q, b'⟩ := one (.tup [.str "turn"]) h4 b4 .turn
    exact ⟨d, h', by simp [e1, e2, e3, e4, b45, at3, e], q, b'⟩
end Law
set_option Elab.async false
set_option linter.all false
set_option maxRecDepth 100000
set_option maxHeartbeats 4000000
namespace Law
open PySem PySem.Spec L2 RZ DD
/-! ## ways, acts -/
theorem dispOf {h : Hd} {ps : List (D × D)} {kk : List Key} (e : keysD (ps.map (·.1)) = some kk) (hn : kk.Nodup) (hl : kk.length ≤ 15) : dispF ps h = .ok (.new (.dct (ps.map (·.1)) (ps.map (·.2)))) h := by
  unfold dispF
  rw [e]
  simp only []
  rw [if_pos ⟨hn, hl⟩]
def wk0 : List D := [.str "go", .str "fall"]
def wu0 : List D := [D.lst [.str "none", .str "aside", .str "mark", .str "strike"], D.lst [.str "aside"]]
def wk1 : List D := [.str "go", .str "fall", .str "strike"]
def wu1 : List D := [D.lst [.str "none", .str "aside", .str "mark", .str "strike"], D.lst [.str "aside"], D.lst [.str "none", .str "twice", .str "less", .str "mark"]]
theorem dispW {h : Hd} : dispF [(D.str "go", D.lst [.str "none", .str "aside", .str "mark", .str "strike"]), (D.str "fall", D.lst [.str "aside"])] h = .ok (.new (.dct wk0 wu0)) h := by
  rw [dispOf (kk := [.inr "go", .inr "fall"]) rfl (by decide +kernel) (by decide)]
  rfl
theorem putW {h : Hd} : dputF (.ref h.length) (.str "strike") (D.lst [.str "none", .str "twice", .str "less", .str "mark"]) (h ++ [.dct wk0 wu0]) = some (h ++ [.dct wk1 wu1]) := by
  have e0 : (h ++ [Cell.dct wk0 wu0])[h.length]? = some (.dct wk0 wu0) := by simp
  unfold dputF
  simp only [keyD, e0]
  rw [if_pos (show wk0.length < 1000 by decide)]
  rw [show dctPut wk0 wu0 (.str "strike") (.inr "strike") (D.lst [.str "none", .str "twice", .str "less", .str "mark"]) = Cell.dct wk1 wu1 from rfl]
  simp
theorem getW {h : Hd} {w : Str} (hw : w ∈ [("go" : Str), "fall", "strike", "mark"]) : dgetF (h ++ [Cell.dct wk1 wu1]) (.ref h.length) (.str w) = some (if w = "mark" then none else some (.lst ((wayL w).map .str))) := by
  have e0 : (h ++ [Cell.dct wk1 wu1])[h.length]? = some (.dct wk1 wu1) := by simp
  simp only [dgetF, dctOf, e0, keyD]
  simp only [List.mem_cons, List.not_mem_nil, or_false] at hw
  rcases hw with rfl | rfl | rfl | rfl <;> rfl
theorem isdW {h : Hd} : isDct (h ++ [Cell.dct wk1 wu1]) (.ref h.length) = true := by
  have e0 : (h ++ [Cell.dct wk1 wu1])[h.length]? = some (.dct wk1 wu1) := by simp
  simp only [isDct, dctOf, e0]
  rfl
theorem wayL_ok : ∀ w ∈ [("go" : Str), "fall", "strike", "mark"], 0 < (wayL w).length ∧ (wayL w).length ≤ 4 ∧ (∀ s ∈ wayL w, s ∈ [("none" : Str), "aside", "mark", "strike", "twice", "less"]) ∧ (w = "mark" → wayL w = [("none" : Str), "twice", "less"]) := by
  intro w hw
  simp only [List.mem_cons, List.not_mem_nil, or_false] at hw
  rcases hw with rfl | rfl | rfl | rfl <;> decide +kernel
theorem wayS {t h : Hd} {w : Str} (b : BagE t h) (hw : w ∈ [("go" : Str), "fall", "strike", "mark"]) : ∃ d h', m_law_way [.ref 0, .str w] h = .ok d h' ∧ WayS w d ∧ BagE t h' := by
  have g := wayL_ok w hw
  obtain ⟨d, h2, e2, hd, b2⟩ := pickE (xs := (wayL w).map .str) (b.app [Cell.dct wk1 wu1]) (by simp; omega)
  obtain ⟨s, hs, rfl⟩ := List.mem_map.mp hd
  have get := getW (h := h) hw
  have eg : ((if w = "mark" then none else some (D.lst ((wayL w).map .str)) : Option D).getD (.lst [.str "none", .str "twice", .str "less"])) = .lst ((wayL w).map .str) := by
    by_cases c : w = "mark"
    · rw [if_pos c, g.2.2.2 c]; rfl
    · rw [if_neg c]; rfl
  unfold m_law_way b_law_way
  by_cases c : s = "less" ∨ s = "mark" ∨ s = "strike"
  · obtain ⟨i, h3, e3, hi, b3⟩ := getE (sz := 4) b2 (by omega)
    exact ⟨.tup [.str s, .int (1 + i)], h3, by simp [dispW, putW, isdW, get, eg, e2, cInX_s3, c, e3], .much hs c (by omega), b3⟩
  · exact ⟨.tup [.str s], h2, by simp [dispW, putW, isdW, get, eg, e2, cInX_s3, c], .bare hs c, b2⟩
theorem actS {ws : List Str} {t h : Hd} (b : BagE t h) (m : MenuL ws) : ∃ d h', m_law_act [.ref 0, .lst (ws.map .str)] h = .ok d h' ∧ ActS ws d ∧ BagE t h' := by
  obtain ⟨f, h1, e1, hf, b1⟩ := pickE (xs := [.str "strike", .str "strike", .str "mark", .str "go", .str "last"]) b (by simp)
  obtain ⟨cd, h2, e2, pc, b2⟩ := condS2 b1 m
  obtain ⟨who, h3, e3, hwho, b3⟩ := pickE (xs := [.tup [.str "it"], cd, .tup [.str "self"]]) b2 (by simp)
  have pw : WhomS ws who := by
    simp only [List.mem_cons, List.not_mem_nil, or_false] at hwho
    rcases hwho with rfl | rfl | rfl
    · exact .it
    · exact .cond pc
    · exact .cond (.self 1)
  obtain ⟨i, h4, e4, hi, b4⟩ := getE (sz := 3) b3 (by omega)
  unfold m_law_act b_law_act
  simp only [List.mem_cons, List.not_mem_nil, or_false] at hf
  rcases hf with rfl | rfl | rfl | rfl | rfl
  · exact ⟨.tup [.str "strike", who, .int (1 + i)], h4, by simp [e1, e2, e3, e4, ofS_inj], .strike pw (by omega), b4⟩
  · exact ⟨.tup [.str "strike", who, .int (1 + i)], h4, by simp [e1, e2, e3, e4, ofS_inj], .strike pw (by omega), b4⟩
  · exact ⟨.tup [.str "mark", who, .int (1 + i)], h4, by simp [e1, e2, e3, e4, ofS_inj], .mark pw (by omega), b4⟩
  · exact ⟨.tup [.str "go", who], h3, by simp [e1, e2, e3, ofS_inj], .go pw, b3⟩
  · obtain ⟨c2, h5, e5, pc2, b5⟩ := condS2 b3 m
    obtain ⟨L, h6, e6, hL, b6⟩ := pickE (xs := [.int 2, .int 3, .int 4, .int 6, .int 7, .int 8, .int 9]) b5 (by simp)
    obtain ⟨l, rfl, hl, hl2⟩ : ∃ l, L = .int l ∧ l ∈ [(2 : Int), 3, 4, 5, 6, 7, 8, 9] ∧ l ∈ [(2 : Int), 3, 4, 6, 7, 8, 9] := by
      simp only [List.mem_cons, List.not_mem_nil, or_false] at hL
      rcases hL with rfl | rfl | rfl | rfl | rfl | rfl | rfl <;> exact ⟨_, rfl, by decide, by decide⟩
    obtain ⟨cg, h7, e7, pg, b7⟩ := changeS b6 m hl
    exact ⟨.tup [.str "last", c2, cg], h7, by simp [e1, e2, e3, e5, e6, e7, ofS_inj], .last pc2 pg hl2, b7⟩
/-! ## stands, writs -/
theorem bag0 {t h : Hd} (b : BagE t h) : ∃ cs p n2 n3 n4 n5, h[0]? = some (bagC cs p n2 n3 n4 n5) ∧ ∀ m, BagE t (h.set 0 (bagC cs p n2 n3 n4 m)) := by
  obtain ⟨e, cs, p, n2, n3, n4, n5, rfl, q⟩ := b
  exact ⟨cs, p, n2, n3, n4, n5, rfl, fun m => ⟨e, cs, p, n2, n3, n4, m, rfl, q⟩⟩
theorem appF_at {h : Hd} {r : Nat} {xs : List D} {d : D} (e : h[r]? = some (.lst xs)) (hz : xs.length ≤ 10000) : appF (.ref r) [d] h = .ok (.val .non) (h.set r (.lst (xs ++ [d]))) := by
  have z : xs.length < sizeLine := Nat.lt_of_le_of_lt hz (by rw [sizeLine_eq]; decide)
  simp only [appF, e]
  rw [if_pos z]
theorem setF_last {h : Hd} {r : Nat} {xs : List D} {d v : D} (e : h[r]? = some (.lst (xs ++ [d]))) : setF (.ref r) (.int (-1)) v h = some (h.set r (.lst (xs ++ [v]))) := by
  have ei : ixN (xs ++ [d]).length (-1) = some xs.length := by
    unfold ixN
    rw [if_neg (by omega), if_pos (by simp; omega)]
    simp
    omega
  simp only [setF, e, ei, Option.map_some]
  congr 3
  simp
theorem isOwn_at {h : Hd} {r : Nat} {xs : List D} (e : h[r]? = some (.lst xs)) : isOwnL h (.ref r) = true := by simp only [isOwnL, e]
theorem standS {ws : List Str} (m : MenuL ws) {N : D → Prop} {qs qw : List D → Hd → Res D} {nested : Bool} (hw : nested = true → ∀ t h, BagE t h → ∃ d h', qw [.ref 0, .lst (ws.map .str), .bl false] h = .ok d h' ∧ N d ∧ BagE t h') {t h : Hd} (b : BagE t h) :
    ∃ d h', runB 6 (b_law_stand qs qw) [.ref 0, .lst (ws.map .str), .bl nested] h = .ok d h' ∧ StandS ws N d ∧ BagE t h' := by
  obtain ⟨e, hl, b0⟩ := b.new (.lst [])
  obtain ⟨i, h1, e1, hi, b1⟩ := getE (sz := 3) b0 (by omega)
  obtain ⟨ys, h2, e2, l2, p2, b2⟩ := lcGo_inv (chk := fun _ => True) (g := gSet 5) (t := tYesM) (e := (mCalG 2 0 (fun ds _ => ds) m_law_pick (aCons (mVar 0) (aCons (mFz (mLst (aCons (mC (.int 2)) (aCons (mC (.int 3)) (aCons (mC (.int 4)) (aCons (mC (.int 4)) (aCons (mC (.int 5)) (aCons (mC (.int 6)) (aCons (mC (.int 7)) (aCons (mC (.int 8)) (aCons (mC (.int 9)) aNil))))))))))) aNil)) aNil))
    (ρ := [some (.ref 0), some (.lst (ws.map .str)), some (.bl nested), some (.ref h.length), none, none]) (BagE (t ++ e ++ [.lst []])) (fun d => ∃ L, d = .int L ∧ L ∈ [(2 : Int), 3, 4, 5, 6, 7, 8, 9]) (fun _ _ => trivial) (rangeD 0 (1 + i).toNat) [] h1
    (fun d _ h b => by
      obtain ⟨L, h', e, hL, b'⟩ := pickE (xs := [.int 2, .int 3, .int 4, .int 4, .int 5, .int 6, .int 7, .int 8, .int 9]) b (by simp)
      refine ⟨_, L, h', rfl, rfl, by simp [e], b', ?_⟩
      simp only [List.mem_cons, List.not_mem_nil, or_false] at hL
      rcases hL with rfl | rfl | rfl | rfl | rfl | rfl | rfl | rfl | rfl <;> exact ⟨_, rfl, by decide⟩) b1 (by simpa using sz_small (n := (1 + i).toNat) (by omega))
  obtain ⟨ns, rfl, q2⟩ := ints_of ys p2
  have ln : ns.length ≤ 3 ∧ 1 ≤ ns.length := by simp at l2; omega
  have r1 := range1_of (j := 1 + i) (by omega)
  have es : ssF (.lst (ns.map .int)) h2 = .ok (.new (.lst ((sd ltI ns).map .int))) h2 := ssF_ints rfl (by omega)
  have cell : ∀ {xs : List D} {h' : Hd}, BagE (t ++ e ++ [.lst xs]) h' → h'[h.length]? = some (.lst xs) := fun {xs h'} b => by
    rw [hl, b.get (by simp)]; simp
  have upd : ∀ {xs : List D} {h' : Hd} (zs : List D), BagE (t ++ e ++ [.lst xs]) h' → BagE (t ++ e ++ [.lst zs]) (h'.set h.length (.lst zs)) := fun {xs h'} zs b => by
    have := b.set (r := (t ++ e).length) (by simp) (.lst zs)
    rw [← hl] at this
    simpa using this
  obtain ⟨ls, els⟩ : ∃ ls, ls = sd ltI ns := ⟨_, rfl⟩
  have lls : ls.length ≤ 3 := by rw [els]; exact Nat.le_trans (sd_len _ _) ln.1
  have lls1 : 1 ≤ ls.length := by
    rw [els]
    obtain ⟨z, hz⟩ := List.exists_mem_of_length_pos (show 0 < ns.length by omega)
    exact List.length_pos_of_mem ((sd_mem ordI).mpr hz)
  have mls : ∀ L ∈ ls, L ∈ [(2 : Int), 3, 4, 5, 6, 7, 8, 9] := fun L hL => q2 L ((sd_mem ordI).mp (els ▸ hL))
  have loop : ∀ (todo done : List Int) (a4 a5 : Option D) (xs : List D) (h4 : Hd), ls = done ++ todo → RowS ws N done xs → BagE (t ++ e ++ [.lst xs]) h4 →
      ∃ a4' a5' xs' h5, forGo (fun _ => True) (gSet 4) (mSeq (mExpr (mFz (mMeth isOwnL appF (mVar 3) (aCons (mCalG 3 0 (fun ds _ => ds) m_law_change (aCons (mVar 0) (aCons (mVar 1) (aCons (mVar 4) aNil))) aNil) aNil))))
      (mIfS (mAnd (mCmp cEq (mVar 4) (mC (.int 6))) (mAnd (mTru (mVar 2)) (mAnd (mCmp cGt (mCalG 2 0 (fun ds _ => ds) m_law_get (aCons (mVar 0) (aCons (mC (.int 3)) aNil)) aNil) (mC (.int 0))) (mCmp cLt (mIxD (mVar 0) (mC (.int 5))) (mC (.int 3)))))) (mSeq (mAsg (mFz (mBin addF (mIxD (mVar 0) (mC (.int 5))) (mC (.int 1)))) (DD.gSub (mVar 0) (mC (.int 5))))
      (mAsg (mTup (aCons (mC (.str "gain")) (aCons (mCalG 3 0 (fun ds _ => ds) qw (aCons (mVar 0) (aCons (mVar 1) (aCons (mC (.bl false)) aNil))) aNil) aNil))) (DD.gSub (mVar 3) (mNeg (mC (.int 1)))))) mNil)) (todo.map .int)
        [some (.ref 0), some (.lst (ws.map .str)), some (.bl nested), some (.ref h.length), a4, a5] h4 = .nx [some (.ref 0), some (.lst (ws.map .str)), some (.bl nested), some (.ref h.length), a4', a5'] h5 ∧ RowS ws N ls xs' ∧ BagE (t ++ e ++ [.lst xs']) h5 := by
    intro todo
    induction todo with
    | nil =>
      intro done a4 a5 xs h4 hd r b4
      rw [List.append_nil] at hd
      exact ⟨a4, a5, xs, h4, by simp [forGo], hd ▸ r, b4⟩
    | cons L todo ih =>
      intro done a4 a5 xs h4 hd r b4
      have mL := mls L (by rw [hd]; simp)
      have lx : xs.length ≤ 3 := by have := congrArg List.length hd; rw [← r.len]; simp at this; omega
      obtain ⟨cg, h5, e5, p5, b5⟩ := changeS b4 m mL
      have c5 := cell b5
      have io := isOwn_at (cell b4)
      have ap := appF_at (d := cg) c5 (by omega)
      have b6 := upd (xs ++ [cg]) b5
      have hd' : ls = (done ++ [L]) ++ todo := by simp [hd]
      have on := fun h7 (b7 : BagE (t ++ e ++ [.lst (xs ++ [cg])]) h7) => ih (done ++ [L]) (some (.int L)) a5 (xs ++ [cg]) h7 hd' (r.snoc p5) b7
      by_cases cL : L = 6
      · subst cL
        cases nested with
        | false =>
          obtain ⟨x4, x5, xs', h8, e8, q8⟩ := on _ b6
          exact ⟨x4, x5, xs', h8, by rw [List.map_cons, forGo]; simp [io, e5, ap, afterB]; exact e8, q8⟩
        | true =>
          obtain ⟨j, h7, e7, hj, b7⟩ := getE (sz := 3) b6 (by omega)
          by_cases cj : 0 < j
          · obtain ⟨cs, p, n2, n3, n4, n5, g0, s0⟩ := bag0 b7
            unfold bagC at g0
            by_cases c5' : n5 < 3
            · have b8 := s0 (n5 + 1)
              unfold bagC at b8
              obtain ⟨wd, h9, e9, p9, b9⟩ := hw rfl _ _ b8
              have c9 := setF_last (v := .tup [.str "gain", wd]) (cell b9)
              obtain ⟨x4, x5, xs', h8, e8, q8⟩ := ih (done ++ [6]) (some (.int 6)) a5 (xs ++ [.tup [.str "gain", wd]]) _ hd' (r.snocG p9) (upd _ b9)
              exact ⟨x4, x5, xs', h8, by rw [List.map_cons, forGo]; simp [io, e5, ap, e7, cj, g0, six, ix6, c5', e9, c9, afterB]; exact e8, q8⟩
            · obtain ⟨x4, x5, xs', h8, e8, q8⟩ := on _ b7
              exact ⟨x4, x5, xs', h8, by rw [List.map_cons, forGo]; simp [io, e5, ap, e7, cj, g0, six, ix6, c5', afterB]; exact e8, q8⟩
          · obtain ⟨x4, x5, xs', h8, e8, q8⟩ := on _ b7
            exact ⟨x4, x5, xs', h8, by rw [List.map_cons, forGo]; simp [io, e5, ap, e7, cj, afterB]; exact e8, q8⟩
      · obtain ⟨x4, x5, xs', h8, e8, q8⟩ := on _ b6
        exact ⟨x4, x5, xs', h8, by rw [List.map_cons, forGo]; simp [io, e5, ap, cL, afterB]; exact e8, q8⟩
  obtain ⟨a4, a5, xs, h3, e3, r3, b3⟩ := loop ls [] none none [] h2 rfl .nil b2
  obtain ⟨cd, h4, e4, p4, b4⟩ := condS2 b3 m
  have c4 := cell b4
  refine ⟨.tup [.str "stand", cd, .tup xs], h4, ?_, .mk p4 r3 ⟨lls1, lls⟩ ?_ mls, BagE.weak (e := e ++ [.lst xs]) (by simpa using b4)⟩
  · unfold b_law_stand
    rw [← els] at es
    simp at e2 e3
    simp [e1, r1, e2, es, e3, e4, tupleF_ref c4]
  · rw [els]
    exact rise_ext ordI (sd_rise ordI ns) (sd_rise ordI _) fun a => (sd_mem ordI).symm
theorem writS {ws : List Str} (m : MenuL ws) {N : D → Prop} {qs qw : List D → Hd → Res D} {nested : Bool} (hs : ∀ t h, BagE t h → ∃ d h', qs [.ref 0, .lst (ws.map .str), .bl nested] h = .ok d h' ∧ StandS ws N d ∧ BagE t h') {t h : Hd} (b : BagE t h) :
    ∃ d h', runB 5 (b_law_writ qs qw) [.ref 0, .lst (ws.map .str), .bl nested] h = .ok d h' ∧ WritS ws N d ∧ BagE t h' := by
  obtain ⟨i, h1, e1, hi, b1⟩ := getE (sz := 6) b (by omega)
  unfold b_law_writ
  by_cases c : i < 4
  · obtain ⟨d, h2, e2, p2, b2⟩ := hs t h1 b1
    exact ⟨d, h2, by simp [e1, c, e2], .stand p2, b2⟩
  · have i0 : i = 4 ∨ i = 5 := by omega
    rcases i0 with rfl | rfl
    · obtain ⟨w, h2, e2, hw, b2⟩ := pickE (xs := [.str "go", .str "fall", .str "strike", .str "mark"]) b1 (by simp)
      obtain ⟨w, rfl, mw⟩ : ∃ s, w = .str s ∧ s ∈ [("go" : Str), "fall", "strike", "mark"] := by
        simp only [List.mem_cons, List.not_mem_nil, or_false] at hw
        rcases hw with rfl | rfl | rfl | rfl <;> exact ⟨_, rfl, by simp⟩
      obtain ⟨cd, h3, e3, p3, b3⟩ := condS2 b2 m
      obtain ⟨wy, h4, e4, p4, b4⟩ := wayS b3 mw
      exact ⟨.tup [.str "instead", .str w, cd, wy], h4, by simp [e1, at0, e2, e3, e4], .instead mw p3 p4, b4⟩
    · obtain ⟨w, h2, e2, hw, b2⟩ := pickE (xs := [.str "come", .str "go", .str "strike", .str "mark"]) b1 (by simp)
      obtain ⟨w, rfl, mw⟩ : ∃ s, w = .str s ∧ s ∈ [("come" : Str), "go", "strike", "mark"] := by
        simp only [List.mem_cons, List.not_mem_nil, or_false] at hw
        rcases hw with rfl | rfl | rfl | rfl <;> exact ⟨_, rfl, by simp⟩
      obtain ⟨cd, h3, e3, p3, b3⟩ := condS2 b2 m
      obtain ⟨ac, h4, e4, p4, b4⟩ := actS b3 m
      exact ⟨.tup [.str "when", .str w, cd, ac], h4, by simp [e1, at1, e2, e3, e4], .when mw p3 p4, b4⟩
theorem standF {ws : List Str} (m : MenuL ws) (n : Nat) (t h : Hd) (b : BagE t h) : ∃ d h', r_law_stand (n + 1) [.ref 0, .lst (ws.map .str), .bl false] h = .ok d h' ∧ StandS ws noGain d ∧ BagE t h' := by
  obtain ⟨d, h', e, p, b'⟩ := standS m (N := noGain) (qs := r_law_stand n) (qw := r_law_writ n) (nested := false) (fun e => by cases e) b
  exact ⟨d, h', by rw [r_law_stand]; exact e, p, b'⟩
theorem writF' {ws : List Str} (m : MenuL ws) (n : Nat) (t h : Hd) (b : BagE t h) : ∃ d h', r_law_writ (n + 2) [.ref 0, .lst (ws.map .str), .bl false] h = .ok d h' ∧ WritF ws d ∧ BagE t h' := by
  obtain ⟨d, h', e, p, b'⟩ := writS m (N := noGain) (qs := r_law_stand (n + 1)) (qw := r_law_writ (n + 1)) (nested := false) (fun t h b => standF m n t h b) b
  exact ⟨d, h', by rw [r_law_writ]; exact e, p, b'⟩
theorem standT {ws : List Str} (m : MenuL ws) (n : Nat) (t h : Hd) (b : BagE t h) : ∃ d h', r_law_stand (n + 3) [.ref 0, .lst (ws.map .str), .bl true] h = .ok d h' ∧ StandS ws (WritF ws) d ∧ BagE t h' := by
  obtain ⟨d, h', e, p, b'⟩ := standS m (N := WritF ws) (qs := r_law_stand (n + 2)) (qw := r_law_writ (n + 2)) (nested := true) (fun _ t h b => writF' m n t h b) b
  exact ⟨d, h', by rw [r_law_stand]; exact e, p, b'⟩
theorem writT' {ws : List Str} (m : MenuL ws) (t h : Hd) (b : BagE t h) : ∃ d h', r_law_writ 5 [.ref 0, .lst (ws.map .str), .bl true] h = .ok d h' ∧ WritT ws d ∧ BagE t h' := by
  obtain ⟨d, h', e, p, b'⟩ := writS m (N := WritF ws) (qs := r_law_stand 4) (qw := r_law_writ 4) (nested := true) (fun t h b => standT m 1 t h b) b
  exact ⟨d, h', by rw [r_law_writ]; exact e, p, b'⟩
end Law
set_option Elab.async false
set_option linter.all false
set_option maxRecDepth 100000
set_option maxHeartbeats 4000000
namespace Law
open PySem PySem.Spec L2 RZ DD
/-! ## looks -/
def lk : List D := [.str "hand", .str "kinds", .str "colours", .str "force", .str "guard", .str "writs"]
section
variable {a b c d e f : D}
theorem lk_hand : valD lk [a, b, c, d, e, f] (.inr "hand") = some a := by simp [lk, valG, keyD, ofS_inj]
theorem lk_kinds : valD lk [a, b, c, d, e, f] (.inr "kinds") = some b := by simp [lk, valG, keyD, ofS_inj]
theorem lk_colours : valD lk [a, b, c, d, e, f] (.inr "colours") = some c := by simp [lk, valG, keyD, ofS_inj]
theorem lk_force : valD lk [a, b, c, d, e, f] (.inr "force") = some d := by simp [lk, valG, keyD, ofS_inj]
theorem lk_guard : valD lk [a, b, c, d, e, f] (.inr "guard") = some e := by simp [lk, valG, keyD, ofS_inj]
theorem lk_writs : valD lk [a, b, c, d, e, f] (.inr "writs") = some f := by simp [lk, valG, keyD, ofS_inj]
end
/-- a look -/
def LookS (u : D) : Prop := ∃ (hd : Int) (us vs : List Str) (fo gu : Int) (wr : D), u = .dct lk [.int hd, .tup (us.map .str), .tup (vs.map .str), .int fo, .int gu, wr]
/-- the value at a number's place -/
theorem val_int : ∀ {ns : List Int} {us : List D} (n : Int), us.length = ns.length → (n ∈ ns → ∃ u ∈ us, valD (ns.map .int) us (.inl n) = some u) ∧ (n ∉ ns → valD (ns.map .int) us (.inl n) = none)
  | [], [], n, _ => ⟨fun h => (by cases h), fun _ => rfl⟩
  | [], _ :: _, _, h => by simp at h
  | _ :: _, [], _, h => by simp at h
  | m :: ns, u :: us, n, h => by
    have ih := val_int (ns := ns) (us := us) n (by simpa using h)
    by_cases e : m = n
    · subst e
      exact ⟨fun _ => ⟨u, by simp, by simp [valG, keyD]⟩, fun z => absurd (by simp) z⟩
    · have q : valD ((m :: ns).map D.int) (u :: us) (.inl n) = valD (ns.map .int) us (.inl n) := by simp [valG, keyD, e]
      rw [q]
      refine ⟨fun z => ?_, fun z => ih.2 fun y => z (List.mem_cons_of_mem _ y)⟩
      rcases List.mem_cons.mp z with z | z
      · exact absurd z.symm e
      · obtain ⟨v, mv, ev⟩ := ih.1 z
        exact ⟨v, List.mem_cons_of_mem _ mv, ev⟩
/-- the looks by their numbers -/
def StS (ns : List Int) (us : List D) : Prop := us.length = ns.length ∧ ∀ u ∈ us, LookS u
theorem StS.at {ns : List Int} {us : List D} (s : StS ns us) {n : Int} (h : n ∈ ns) : ∃ (hd : Int) (ks cs : List Str) (fo gu : Int) (wr : D), valD (ns.map .int) us (.inl n) = some (.dct lk [.int hd, .tup (ks.map .str), .tup (cs.map .str), .int fo, .int gu, wr]) := by
  obtain ⟨u, mu, e⟩ := (val_int n s.1).1 h
  obtain ⟨hd, ks, cs, fo, gu, wr, rfl⟩ := s.2 u mu
  exact ⟨hd, ks, cs, fo, gu, wr, e⟩
/-- a hand, or None -/
def HandV : D → Prop
  | .int _ => True
  | .non => True
  | _ => False
theorem eq_hand {d : D} (hd : HandV d) (i : Int) : ∃ b, ∀ h, cEq (.int i) d h = .ok b h := by
  cases d with
  | int j => exact ⟨decide (i = j), fun h => by simp⟩
  | non => exact ⟨false, fun h => rfl⟩
  | _ => exact hd.elim
theorem from_eq : m_law_from = mhand_seen := rfl
theorem seen_ok {ns : List Int} {us : List D} (s : StS ns us) (one : Int) {hd : D} (hh : HandV hd) : ∃ d, HandV d ∧ ∀ h, mhand_seen [.dct (ns.map .int) us, .int one, hd] h = .ok d h := by
  by_cases c : one ∈ ns
  · obtain ⟨i, ks, cs, fo, gu, wr, e⟩ := s.at c
    refine ⟨.int i, trivial, fun h => ?_⟩
    unfold mhand_seen bhand_seen
    simp [e, lk_hand]
  · have e := (val_int one s.1).2 c
    refine ⟨hd, hh, fun h => ?_⟩
    unfold mhand_seen bhand_seen
    simp [e]
theorem app_s1 : ("kind" : Str) ++ ("s" : Str) = "kinds" := by decide +kernel
theorem app_s2 : ("colour" : Str) ++ ("s" : Str) = "colours" := by decide +kernel
theorem zk1 : ("kind" : Str).length + ("s" : Str).length ≤ sizeLine := sz_small (by decide +kernel)
theorem zk2 : ("colour" : Str).length + ("s" : Str).length ≤ sizeLine := sz_small (by decide +kernel)
theorem cut1 (x y : D) : cutL [x, y] (some 1) none = [y] := rfl
theorem cut2 (x y z : D) : cutL [x, y, z] (some 1) none = [y, z] := rfl
theorem cInX_s2 {h : Hd} (x a b : Str) : cInX (.str x) (.tup [.str a, .str b]) h = .ok (decide (x = a ∨ x = b)) h := by
  have := cInX_strs (h := h) x [a, b]
  simpa using this
theorem allF2 {h : Hd} (a b : Bool) : allF [.lst [.bl a, .bl b]] h = .ok (.val (.bl (a && b))) h := by simpa using allF_map (h := h) (fun x : Bool => x) [a, b]
theorem anyF2 {h : Hd} (a b : Bool) : anyF [.lst [.bl a, .bl b]] h = .ok (.val (.bl (a || b))) h := by simp [anyF, lstOf, toBs, valR]
theorem sees_takes {ws : List Str} {ns : List Int} {us : List D} (s : StS ns us) {n : Int} (hn : n ∈ ns) (one : Int) {hd : D} (hh : HandV hd) : ∀ (k : Nat) (c : D), CondS ws k c → ∃ b, ∀ m m' h, k < m → k < m' →
    rtakes m [c, .dct (ns.map .int) us, .int n, .int one, hd] h = .ok (.bl b) h ∧ r_law_sees m' [c, .dct (ns.map .int) us, .int n, .int one, hd] h = .ok (.bl b) h := by
  obtain ⟨i, ks, cs, fo, gu, wr, e⟩ := s.at hn
  obtain ⟨sd, hsd, es⟩ := seen_ok s one hh
  obtain ⟨bq, eq⟩ := eq_hand hsd i
  have fz : ∀ {m : Nat} {k : Nat}, k < m → ∃ j, m = j + 1 := fun h => ⟨_, (Nat.succ_pred_eq_of_pos (by omega)).symm⟩
  have base : ∀ (k : Nat) (c : D) (b : Bool), (∀ j h, runB 10 (btakes (rtakes j)) [c, .dct (ns.map .int) us, .int n, .int one, hd] h = .ok (.bl b) h) → (∀ j h, runB 9 (b_law_sees (r_law_sees j)) [c, .dct (ns.map .int) us, .int n, .int one, hd] h = .ok (.bl b) h) →
      ∃ b, ∀ m m' h, k < m → k < m' → rtakes m [c, .dct (ns.map .int) us, .int n, .int one, hd] h = .ok (.bl b) h ∧ r_law_sees m' [c, .dct (ns.map .int) us, .int n, .int one, hd] h = .ok (.bl b) h := fun k c b t1 t2 => ⟨b, fun m m' h h1 h2 => by
    obtain ⟨j, rfl⟩ := fz h1
    obtain ⟨j', rfl⟩ := fz h2
    exact ⟨t1 j h, t2 j' h⟩⟩
  intro k c hc
  induction hc with
  | any k => exact base k _ true (fun j h => by unfold btakes; simp [e]) (fun j h => by unfold b_law_sees; simp [e, cInX_s3, at0, at1])
  | self k => exact base k _ (decide (n = one)) (fun j h => by unfold btakes; simp [e, at0, at1, ofS_inj]) (fun j h => by unfold b_law_sees; simp [e, cInX_s3, at0, at1, ofS_inj])
  | other k => exact base k _ (!decide (n = one)) (fun j h => by unfold btakes; simp [e, at0, at1, ofS_inj]) (fun j h => by unfold b_law_sees; simp [e, cInX_s3, at0, at1, ofS_inj])
  | mine k => exact base k _ bq (fun j h => by unfold btakes; simp [e, at0, at1, ofS_inj, lk_hand, es, eq]) (fun j h => by unfold b_law_sees; simp [e, cInX_s3, at0, at1, ofS_inj, lk_hand, from_eq, es, eq])
  | @kind k w hw => exact base k _ (decide (w ∈ ks)) (fun j h => by unfold btakes; simp [e, at0, at1, ofS_inj, lk_kinds, cInX_strs]) (fun j h => by unfold b_law_sees; simp [e, cInX_s3, at0, at1, cInX_s2, ofS_inj, lk_kinds, app_s1, zk1, cInX_strs])
  | @colour k w hw => exact base k _ (decide (w ∈ cs)) (fun j h => by unfold btakes; simp [e, at0, at1, ofS_inj, lk_colours, cInX_strs]) (fun j h => by unfold b_law_sees; simp [e, cInX_s3, at0, at1, cInX_s2, ofS_inj, lk_colours, app_s2, zk2, cInX_strs])
  | @least k l hl => exact base k _ (decide (l ≤ fo)) (fun j h => by unfold btakes; simp [e, at0, at1, ofS_inj, lk_force]) (fun j h => by unfold b_law_sees; simp [e, cInX_s3, at0, at1, cInX_s2, ofS_inj, lk_force])
  | @not k c q ih =>
    obtain ⟨b, ih⟩ := ih
    refine ⟨!b, fun m m' h h1 h2 => ?_⟩
    obtain ⟨j, rfl⟩ := fz h1
    obtain ⟨j', rfl⟩ := fz h2
    have q := fun h => ih j j' h (by omega) (by omega)
    refine ⟨?_, ?_⟩
    · show runB 10 (btakes (rtakes j)) _ _ = _
      unfold btakes
      simp [e, at0, at1, ofS_inj, (q _).1]
    · show runB 9 (b_law_sees (r_law_sees j')) _ _ = _
      unfold b_law_sees
      have l := lc1 (i := 8) (e := mCalG 5 0 (fun ds _ => ds) (r_law_sees j') (aCons (mVar 8) (aCons (mVar 1) (aCons (mVar 2) (aCons (mVar 3) (aCons (mVar 4) aNil))))) aNil) (ρ := [some (.tup [.str "not", c]), some (.dct (ns.map .int) us), some (.int n), some (.int one), some hd, some (.str "not"), some (.dct lk [.int i, .tup (ks.map .str), .tup (cs.map .str), .int fo, .int gu, wr]), none, none]) (h := h) (x := c) (y := .bl b) (by simp [(q _).2])
      simp [e, cInX_s3, at0, at1, cInX_s2, ofS_inj, cut1, l]
  | @both k c d q1 q2 ih1 ih2 =>
    obtain ⟨b1, ih1⟩ := ih1
    obtain ⟨b2, ih2⟩ := ih2
    refine ⟨b1 && b2, fun m m' h h1 h2 => ?_⟩
    obtain ⟨j, rfl⟩ := fz h1
    obtain ⟨j', rfl⟩ := fz h2
    have p1 := fun h => ih1 j j' h (by omega) (by omega)
    have p2 := fun h => ih2 j j' h (by omega) (by omega)
    refine ⟨?_, ?_⟩
    · show runB 10 (btakes (rtakes j)) _ _ = _
      unfold btakes
      have l := lc2 (i := 9) (e := mCalG 3 2 (fun ds es => pickL [0, 1, 2, 3, 4] (ds ++ es)) (rtakes j) (aCons (mVar 9) (aCons (mVar 1) (aCons (mVar 2) aNil))) (aCons (mVar 3) (aCons (mVar 4) aNil))) (ρ := [some (.tup [.str "both", c, d]), some (.dct (ns.map .int) us), some (.int n), some (.int one), some hd, some (.str "both"), some (.lst [c, d]), some (.dct lk [.int i, .tup (ks.map .str), .tup (cs.map .str), .int fo, .int gu, wr]), none, none]) (h := h) (x := c) (y := d) (a := .bl b1) (b := .bl b2) (by simp [(p1 _).1]) (by simp [(p2 _).1])
      simp at l
      simp [e, at0, at1, ofS_inj, l, allF2, anyF2]
    · show runB 9 (b_law_sees (r_law_sees j')) _ _ = _
      unfold b_law_sees
      have l := lc2 (i := 8) (e := mCalG 5 0 (fun ds _ => ds) (r_law_sees j') (aCons (mVar 8) (aCons (mVar 1) (aCons (mVar 2) (aCons (mVar 3) (aCons (mVar 4) aNil))))) aNil) (ρ := [some (.tup [.str "both", c, d]), some (.dct (ns.map .int) us), some (.int n), some (.int one), some hd, some (.str "both"), some (.dct lk [.int i, .tup (ks.map .str), .tup (cs.map .str), .int fo, .int gu, wr]), none, none]) (h := h) (x := c) (y := d) (a := .bl b1) (b := .bl b2) (by simp [(p1 _).2]) (by simp [(p2 _).2])
      simp [e, cInX_s3, at0, at1, cInX_s2, ofS_inj, cut2, l, allF2, anyF2]
  | @either k c d q1 q2 ih1 ih2 =>
    obtain ⟨b1, ih1⟩ := ih1
    obtain ⟨b2, ih2⟩ := ih2
    refine ⟨b1 || b2, fun m m' h h1 h2 => ?_⟩
    obtain ⟨j, rfl⟩ := fz h1
    obtain ⟨j', rfl⟩ := fz h2
    have p1 := fun h => ih1 j j' h (by omega) (by omega)
    have p2 := fun h => ih2 j j' h (by omega) (by omega)
    refine ⟨?_, ?_⟩
    · show runB 10 (btakes (rtakes j)) _ _ = _
      unfold btakes
      have l := lc2 (i := 9) (e := mCalG 3 2 (fun ds es => pickL [0, 1, 2, 3, 4] (ds ++ es)) (rtakes j) (aCons (mVar 9) (aCons (mVar 1) (aCons (mVar 2) aNil))) (aCons (mVar 3) (aCons (mVar 4) aNil))) (ρ := [some (.tup [.str "either", c, d]), some (.dct (ns.map .int) us), some (.int n), some (.int one), some hd, some (.str "either"), some (.lst [c, d]), some (.dct lk [.int i, .tup (ks.map .str), .tup (cs.map .str), .int fo, .int gu, wr]), none, none]) (h := h) (x := c) (y := d) (a := .bl b1) (b := .bl b2) (by simp [(p1 _).1]) (by simp [(p2 _).1])
      simp at l
      simp [e, at0, at1, ofS_inj, l, allF2, anyF2]
    · show runB 9 (b_law_sees (r_law_sees j')) _ _ = _
      unfold b_law_sees
      have l := lc2 (i := 8) (e := mCalG 5 0 (fun ds _ => ds) (r_law_sees j') (aCons (mVar 8) (aCons (mVar 1) (aCons (mVar 2) (aCons (mVar 3) (aCons (mVar 4) aNil))))) aNil) (ρ := [some (.tup [.str "either", c, d]), some (.dct (ns.map .int) us), some (.int n), some (.int one), some hd, some (.str "either"), some (.dct lk [.int i, .tup (ks.map .str), .tup (cs.map .str), .int fo, .int gu, wr]), none, none]) (h := h) (x := c) (y := d) (a := .bl b1) (b := .bl b2) (by simp [(p1 _).2]) (by simp [(p2 _).2])
      simp [e, cInX_s3, at0, at1, cInX_s2, ofS_inj, cut2, l, allF2, anyF2]
end Law
set_option Elab.async false
set_option linter.all false
set_option maxRecDepth 100000
set_option maxHeartbeats 4000000
namespace Law
open PySem PySem.Spec L2 RZ DD
theorem keysI_nums : ∀ ns : List Int, keysI (ns.map D.int) = some ns
  | [] => rfl
  | n :: ns => by simp only [List.map_cons, keysI, keysI_nums ns, Option.map_some]
theorem srt_small {ns : List Int} (hl : ns.length ≤ 60) : ([] : List D).length + (srtI ns).length ≤ sizeLine := by
  rw [srtI_len]
  exact sz_small (by simp; omega)
theorem whom_ok {ws : List Str} {ns : List Int} {us : List D} (s : StS ns us) (hl : ns.length ≤ 60) (one : Int) {hd : D} (hh : HandV hd) {c : D} (hc : CondS ws 3 c) : ∃ f : Int → Bool,
    (∀ n ∈ ns, ∀ h, mtakes [c, .dct (ns.map .int) us, .int n, .int one, hd] h = .ok (.bl (f n)) h) ∧
    (∀ h, mtaken [c, .dct (ns.map .int) us, .int one, hd] h = .ok (.tup (((srtI ns).filter f).map .int)) h) ∧ ∀ h, m_law_whom [c, .dct (ns.map .int) us, .int one, hd] h = .ok (.tup (((srtI ns).filter f).map .int)) h := by
  have ex : ∀ n : Int, ∃ b, n ∈ ns → ∀ m m' h, 3 < m → 3 < m' → rtakes m [c, .dct (ns.map .int) us, .int n, .int one, hd] h = .ok (.bl b) h ∧ r_law_sees m' [c, .dct (ns.map .int) us, .int n, .int one, hd] h = .ok (.bl b) h := fun n => by
    by_cases hn : n ∈ ns
    · obtain ⟨b, q⟩ := sees_takes s hn one hh 3 c hc
      exact ⟨b, fun _ => q⟩
    · exact ⟨true, fun z => absurd z hn⟩
  have q := fun n hn => (ex n).choose_spec hn
  generalize hf : (fun n => (ex n).choose) = f at q
  have q' : ∀ n ∈ ns, ∀ h, mtakes [c, .dct (ns.map .int) us, .int n, .int one, hd] h = .ok (.bl (f n)) h ∧ m_law_sees [c, .dct (ns.map .int) us, .int n, .int one, hd] h = .ok (.bl (f n)) h := fun n hn h => by
    subst hf
    exact q n hn 5 5 h (by omega) (by omega)
  refine ⟨f, fun n hn h => (q' n hn h).1, fun h => ?_, fun h => ?_⟩
  · have l := lcGo_filter (chk := fun _ => True) (i := 4) (t := mTru (mCalG 3 2 (fun ds es => pickL [0, 1, 2, 3, 4] (ds ++ es)) mtakes (aCons (mVar 0) (aCons (mVar 1) (aCons (mVar 4) aNil))) (aCons (mVar 2) (aCons (mVar 3) aNil)))) (e := mVar 4) (ρ := [some c, some (.dct (ns.map .int) us), some (.int one), some hd, none]) (h := h) trivial D.int f D.int (srtI ns) []
      (fun n hn => ⟨by simp [(q' n (srtI_mem.mp hn) h).1], by simp⟩) (srt_small hl)
    unfold mtaken btaken
    simp at l
    simp [keysI_nums, show ns.length < 64 by omega, l]
  · have l := lcGo_filter (chk := fun _ => True) (i := 4) (t := mTru (mCalG 5 0 (fun ds _ => ds) m_law_sees (aCons (mVar 0) (aCons (mVar 1) (aCons (mVar 4) (aCons (mVar 2) (aCons (mVar 3) aNil))))) aNil)) (e := mVar 4) (ρ := [some c, some (.dct (ns.map .int) us), some (.int one), some hd, none]) (h := h) trivial D.int f D.int (srtI ns) []
      (fun n hn => ⟨by simp [(q' n (srtI_mem.mp hn) h).2], by simp⟩) (srt_small hl)
    unfold m_law_whom b_law_whom
    simp [keysI_nums, show ns.length < 64 by omega, l]
end Law
set_option Elab.async false
set_option linter.all false
set_option maxRecDepth 100000
set_option maxHeartbeats 4000000
namespace Law
open PySem PySem.Spec L2 RZ DD
theorem same_refl {n : Nat} (hn : n ≤ 90000) : ∀ (k : Nat) (d : D) (m : Nat) (h : Hd), pd n k d → k < m → r_law_same m [d, d] h = .ok (.bl true) h := by
  have scal : ∀ (d : D) (m : Nat) (h : Hd), pd n 0 d → r_law_same (m + 1) [d, d] h = .ok (.bl true) h := fun d m h p => by
    show runB 5 (b_law_same (r_law_same m)) _ _ = _
    unfold b_law_same
    cases d with
    | non =>
      have e : cEq .non .non h = .ok true h := rfl
      simp [isiF, tyName, tyKnown, isT, tysOf, DD.isNon, e]
    | bl b => simp [isiF, tyName, tyKnown, isT, tysOf, DD.isNon]
    | int i => simp [isiF, tyName, tyKnown, isT, tysOf, DD.isNon]
    | str s => simp [isiF, tyName, tyKnown, isT, tysOf, DD.isNon]
    | _ => simp [pd] at p
  have seqs : ∀ (k : Nat) (xs : List D) (m : Nat) (h : Hd) (f d : D), xs.length ≤ 90000 → (∀ x ∈ xs, ∀ h, r_law_same m [x, x] h = .ok (.bl true) h) →
      lcGo (fun _ => True) (gTupM 2 (gsCons (gSet 3) (gsCons (gSet 4) gsNil))) tYesM (mCalG 2 0 (fun ds _ => ds) (r_law_same m) (aCons (mVar 3) (aCons (mVar 4) aNil)) aNil) [some f, some d, none, none, none] (zipD xs xs) [] h = .ok (xs.map fun _ => .bl true) h := fun k xs m h f d hl hx => by
    have ez : zipD xs xs = xs.map fun x => .tup [x, x] := by
      unfold zipD
      clear hl hx
      induction xs with
      | nil => rfl
      | cons x xs ih => rw [List.zip_cons_cons, List.map_cons, List.map_cons, ih]
    rw [ez, lcGo_pure (fun _ => .bl true) trivial]
    · rw [List.map_map]; rfl
    · intro d md
      obtain ⟨x, hx', rfl⟩ := List.mem_map.mp md
      exact ⟨_, rfl, rfl, by simp [hx x hx' h]⟩
    · simpa using sz_big (by omega)
  have all1 : ∀ (xs : List D) (h : Hd), allF [.lst (xs.map fun _ => D.bl true)] h = .ok (.val (.bl true)) h := fun xs h => by
    rw [allF_map (fun _ => true) xs]; simp
  intro k
  induction k with
  | zero =>
    intro d m h p hm
    obtain ⟨m, rfl⟩ : ∃ j, m = j + 1 := ⟨m - 1, by omega⟩
    exact scal d m h p
  | succ k ih =>
    intro d m h p hm
    obtain ⟨m, rfl⟩ : ∃ j, m = j + 1 := ⟨m - 1, by omega⟩
    cases d with
    | tup xs =>
      obtain ⟨lx, px⟩ := (pd_tup xs).mp p
      have e := seqs k xs m h (.tup xs) (.tup xs) (by omega) (fun x mx h => ih x m h (px x mx) (by omega))
      show runB 5 (b_law_same (r_law_same m)) _ _ = _
      unfold b_law_same
      simp [isiF, tyName, tyKnown, isT, tysOf, e, all1]
    | lst xs =>
      obtain ⟨lx, px⟩ := (pd_lst xs).mp p
      have e := seqs k xs m h (.lst xs) (.lst xs) (by omega) (fun x mx h => ih x m h (px x mx) (by omega))
      show runB 5 (b_law_same (r_law_same m)) _ _ = _
      unfold b_law_same
      simp [isiF, tyName, tyKnown, isT, tysOf, e, all1]
    | non => exact scal _ m h (by simp)
    | bl b => exact scal _ m h (by simp)
    | int i => exact scal _ m h (by simp)
    | str s => exact scal _ m h (by simpa using p)
    | _ => simp [pd] at p
/-! ## the law's look for a word -/
end Law
set_option Elab.async false
set_option linter.all false
set_option maxRecDepth 100000
set_option maxHeartbeats 4000000
namespace Law
open PySem PySem.Spec L2 RZ DD
/-! ## cards -/
def CardS (ws : List Str) (d : D) : Prop := ∃ (us vs : List Str) (fo gu : Int) (wr : List D), d = .tup [.tup (us.map .str), .tup (vs.map .str), .int fo, .int gu, .tup wr] ∧ WordsS ws us ∧ WordsS ws vs ∧ (-1 ≤ fo ∧ fo ≤ 4) ∧ (1 ≤ gu ∧ gu ≤ 6) ∧ wr.length ≤ 3 ∧ ∀ x ∈ wr, WritT ws x
theorem cardS {ws : List Str} {t h : Hd} (b : BagE t h) (m : MenuL ws) : ∃ d h', m_law_card [.ref 0, .lst (ws.map .str)] h = .ok d h' ∧ CardS ws d ∧ BagE t h' := by
  obtain ⟨d, h1, e1, hd, b1⟩ := pickE (xs := [.int 0, .int 1, .int 1, .int 2, .int 3]) b (by simp)
  obtain ⟨n, rfl, hn⟩ : ∃ n : Int, d = .int n ∧ 0 ≤ n ∧ n ≤ 3 := by
    simp only [List.mem_cons, List.not_mem_nil, or_false] at hd
    rcases hd with rfl | rfl | rfl | rfl | rfl <;> exact ⟨_, rfl, by omega, by omega⟩
  obtain ⟨ys, h2, e2, l2, p2, b2⟩ := lcGo_inv (chk := fun _ => True) (g := gSet 3) (t := tYesM) (e := mCalG 3 0 (fun ds _ => ds) m_law_writ (aCons (mVar 0) (aCons (mVar 1) (aCons (mC (.bl true)) aNil))) aNil) (ρ := [some (.ref 0), some (.lst (ws.map .str)), none, none]) (BagE t) (WritT ws) (fun _ _ => trivial) (rangeD 0 n.toNat) [] h1
    (fun d _ h b => by
      obtain ⟨d, h', e, q, b'⟩ := writT' m t h b
      exact ⟨_, d, h', rfl, rfl, by simp [e], b', q⟩) b1 (by simpa using sz_small (n := n.toNat) (by omega))
  obtain ⟨us, h3, e3, o3, b3⟩ := wordsS b2 m
  obtain ⟨vs, h4, e4, o4, b4⟩ := wordsS b3 m
  obtain ⟨i, h5, e5, hi, b5⟩ := getE (sz := 6) b4 (by omega)
  obtain ⟨j, h6, e6, hj, b6⟩ := getE (sz := 6) b5 (by omega)
  have r1 := range1_of (j := n) (by omega)
  refine ⟨_, h6, ?_, ⟨us, vs, i - 1, 1 + j, ys, rfl, o3, o4, by omega, by omega, by simp at l2; omega, p2⟩, b6⟩
  unfold m_law_card b_law_card
  simp at e2
  simp [e1, r1, e2, e3, e4, e5, e6]
/-! ## looks -/
def lk5 : List D := [.str "hand", .str "kinds", .str "colours", .str "force", .str "guard"]
theorem disp5 {h : Hd} (a b c d e : D) : dispF [(D.str "hand", a), (D.str "kinds", b), (D.str "colours", c), (D.str "force", d), (D.str "guard", e)] h = .ok (.new (.dct lk5 [a, b, c, d, e])) h := by
  rw [dispOf (kk := [.inr "hand", .inr "kinds", .inr "colours", .inr "force", .inr "guard"]) rfl (by decide +kernel) (by decide)]
  rfl
theorem put6 {h : Hd} (a b c d e v : D) : dputF (.ref h.length) (.str "writs") v (h ++ [.dct lk5 [a, b, c, d, e]]) = some (h ++ [.dct lk [a, b, c, d, e, v]]) := by
  have e0 : (h ++ [Cell.dct lk5 [a, b, c, d, e]])[h.length]? = some (.dct lk5 [a, b, c, d, e]) := by simp
  unfold dputF
  simp only [keyD, e0]
  rw [if_pos (show lk5.length < 1000 by decide)]
  rw [show dctPut lk5 [a, b, c, d, e] (.str "writs") (.inr "writs") v = Cell.dct lk [a, b, c, d, e, v] from rfl]
  simp
theorem put6w {h : Hd} (a b c d e f v : D) : dputF (.ref h.length) (.str "writs") v (h ++ [.dct lk [a, b, c, d, e, f]]) = some (h ++ [.dct lk [a, b, c, d, e, v]]) := by
  have e0 : (h ++ [Cell.dct lk [a, b, c, d, e, f]])[h.length]? = some (.dct lk [a, b, c, d, e, f]) := by simp
  unfold dputF
  simp only [keyD, e0]
  rw [if_pos (show lk.length < 1000 by decide)]
  rw [show dctPut lk [a, b, c, d, e, f] (.str "writs") (.inr "writs") v = Cell.dct lk [a, b, c, d, e, v] from rfl]
  simp
theorem frz_end {h : Hd} (ks us : List D) : frzD (.ref h.length) (h ++ [.dct ks us]) = .ok (.dct ks us) (h ++ [.gone]) := by
  have e0 : (h ++ [Cell.dct ks us])[h.length]? = some (.dct ks us) := by simp
  simp only [frzD, e0]
  simp
/-- a writ with its name -/
def namedD (mo num : Int) : D → D
  | .tup [i, x] => .tup [.tup [.int mo, .int num, i], x]
  | d => d
def sndD : D → D
  | .tup [_, x] => x
  | d => d
theorem enum_in {xs : List D} {d : D} (m : d ∈ enumD xs) : ∃ i x, d = .tup [i, x] := by
  unfold enumD zipD at m
  obtain ⟨p, _, rfl⟩ := List.mem_map.mp m
  exact ⟨_, _, rfl⟩
theorem snd_named (mo num : Int) (xs : List D) : ((enumD xs).map (namedD mo num)).map sndD = xs := by
  unfold enumD zipD
  rw [List.map_map, List.map_map]
  have : ((sndD ∘ namedD mo num) ∘ fun p : D × D => D.tup [p.1, p.2]) = Prod.snd := by funext p; rfl
  rw [this, List.map_snd_zip]
  simp
theorem look_ok {t h : Hd} {num hd mo : Int} {a b : D} {fo gu : Int} {wr : List D} (bg : BagE t h) (hl : wr.length ≤ 100) :
    ∃ h', m_law_look [.int num, .int hd, .int mo, .tup [a, b, .int fo, .int gu, .tup wr]] h = .ok (.dct lk [.int hd, a, b, .int fo, .int gu, .lst ((enumD wr).map (namedD mo num))]) h' ∧ BagE t h' := by
  refine ⟨h ++ [.gone], ?_, bg.app _⟩
  have l := lcGo_pure (chk := fun _ => True) (g := gTupM 2 (gsCons (DD.gSet 5) (gsCons (DD.gSet 6) gsNil))) (t := tYesM) (e := mTup (aCons (mTup (aCons (mVar 2) (aCons (mVar 0) (aCons (mVar 5) aNil)))) (aCons (mVar 6) aNil)))
    (ρ := [some (.int num), some (.int hd), some (.int mo), some (.tup [a, b, .int fo, .int gu, .tup wr]), some (.ref h.length), none, none]) (h := h ++ [.dct lk5 [.int hd, a, b, .int fo, .int gu]]) (namedD mo num) trivial (enumD wr) []
    (fun d md => by
      obtain ⟨i, x, rfl⟩ := enum_in md
      exact ⟨[some (.int num), some (.int hd), some (.int mo), some (.tup [a, b, .int fo, .int gu, .tup wr]), some (.ref h.length), some i, some x], by simp, rfl, by simp [namedD]⟩) (by simpa [enumD_len] using sz_small (n := wr.length) (by omega))
  unfold m_law_look b_law_look
  simp at l
  simp [at0, at1, at2, at3, at4, disp5, l, put6, frz_end]
theorem with_ok {t h : Hd} {a b c d e f v : D} (bg : BagE t h) : ∃ h', m_law_with [.dct lk [a, b, c, d, e, f], .str "writs", v] h = .ok (.dct lk [a, b, c, d, e, v]) h' ∧ BagE t h' := by
  refine ⟨h ++ [.gone], ?_, bg.app _⟩
  unfold m_law_with b_law_with
  simp [put6w, frz_end]
end Law
set_option Elab.async false
set_option linter.all false
set_option maxRecDepth 100000
set_option maxHeartbeats 4000000
namespace Law
open PySem PySem.Spec L2 RZ DD
/-! ## an own dict with numbers for keys -/
theorem putU_ok {n : Int} {v : D} : ∀ {ns : List Int} {us : List D}, us.length = ns.length → (putU (ns.map .int) us (.inl n) v).length = ns.length ∧ ∀ u ∈ putU (ns.map .int) us (.inl n) v, u = v ∨ u ∈ us
  | [], [], _ => ⟨rfl, fun u m => by simp [putG] at m⟩
  | [], _ :: _, h => by simp at h
  | _ :: _, [], h => by simp at h
  | m :: ns, u :: us, h => by
    have ih := putU_ok (n := n) (v := v) (ns := ns) (us := us) (by simpa using h)
    by_cases e : m = n
    · subst e
      simp only [List.map_cons, putG, keyD, if_true]
      refine ⟨by simp [ih.1], fun z mz => ?_⟩
      rcases List.mem_cons.mp mz with rfl | mz
      · exact .inl rfl
      · rcases ih.2 z mz with q | q
        · exact .inl q
        · exact .inr (List.mem_cons_of_mem _ q)
    · have q : putU ((m :: ns).map D.int) (u :: us) (.inl n) v = u :: putU (ns.map .int) us (.inl n) v := by simp [putG, keyD, e]
      rw [q]
      refine ⟨by simp [ih.1], fun z mz => ?_⟩
      rcases List.mem_cons.mp mz with rfl | mz
      · exact .inr (by simp)
      · rcases ih.2 z mz with q | q
        · exact .inl q
        · exact .inr (List.mem_cons_of_mem _ q)
theorem putN_ok {h : Hd} {r : Nat} {n : Int} {ns : List Int} {us : List D} {v : D} (e : h[r]? = some (.dct (ns.map .int) us)) (hl : us.length = ns.length) (hz : ns.length < 1000) :
    ∃ (ns' : List Int) (us' : List D), dputF (.ref r) (.int n) v h = some (h.set r (.dct (ns'.map .int) us')) ∧ us'.length = ns'.length ∧ ns'.length ≤ ns.length + 1 ∧ (∀ u ∈ us', u = v ∨ u ∈ us) ∧ ∀ m ∈ ns', m = n ∨ m ∈ ns := by
  have q : dputF (.ref r) (.int n) v h = some (h.set r (dctPut (ns.map .int) us (.int n) (.inl n) v)) := by
    unfold dputF
    simp only [keyD, e]
    rw [if_pos (by simpa using hz)]
  rw [q]
  unfold dctPut
  cases ev : valD (ns.map .int) us (.inl n) with
  | some d =>
    have p := putU_ok (n := n) (v := v) hl
    exact ⟨ns, _, rfl, p.1, by omega, p.2, fun m hm => .inr hm⟩
  | none =>
    refine ⟨ns ++ [n], us ++ [v], by simp, by simp [hl], by simp, fun u mu => ?_, fun m mm => ?_⟩
    · rcases List.mem_append.mp mu with q | q
      · exact .inr q
      · exact .inl (List.mem_singleton.mp q)
    · rcases List.mem_append.mp mm with q | q
      · exact .inr q
      · exact .inl (List.mem_singleton.mp q)
/-! ## the board -/
def ThingS (ws : List Str) (u : D) : Prop := ∃ (hd mo : Int) (c : D) (mk : Int), u = .tup [.int hd, .int mo, c, .int mk] ∧ (0 ≤ hd ∧ hd ≤ 1) ∧ (1 ≤ mo ∧ mo ≤ 9) ∧ CardS ws c
theorem mem_range {lo : Int} {n : Nat} {d : D} (m : d ∈ rangeD lo n) : ∃ i : Int, d = .int i ∧ lo ≤ i ∧ i < lo + n := by
  unfold rangeD at m
  obtain ⟨k, hk, rfl⟩ := List.mem_map.mp m
  have := List.mem_range.mp hk
  exact ⟨_, rfl, by omega, by omega⟩
theorem enum_mem {xs : List D} {d : D} (m : d ∈ enumD xs) : ∃ (i : Int) (x : D), d = .tup [.int i, x] ∧ 0 ≤ i ∧ i < xs.length ∧ x ∈ xs := by
  unfold enumD zipD at m
  obtain ⟨p, hp, rfl⟩ := List.mem_map.mp m
  have a := List.of_mem_zip hp
  obtain ⟨i, e, h1, h2⟩ := mem_range a.1
  exact ⟨i, p.2, by rw [e], h1, by omega, a.2⟩
theorem ints_sub {p : Int → Prop} {ys : List D} (h : ∀ y ∈ ys, ∃ i, y = .int i ∧ p i) : ∃ ns : List Int, ys = ns.map .int ∧ ∀ n ∈ ns, p n := ints_of ys h
theorem board_ok {ws : List Str} {t h : Hd} (b : BagE t h) (m : MenuL ws) : ∃ (ns : List Int) (us : List D) (h' : Hd), m_law_board [.ref 0, .lst (ws.map .str), .int 4] h = .ok (.dct (ns.map .int) us) h' ∧ us.length = ns.length ∧ ns.length ≤ 7 ∧ (∀ n ∈ ns, 1 ≤ n ∧ n ≤ 7) ∧ (∀ u ∈ us, ThingS ws u) ∧ BagE t h' := by
  obtain ⟨e, hl, b0⟩ := b.new (.dct [] [])
  obtain ⟨mos, h1, e1, l1, p1, b1⟩ := shuffled_ok (xs := rangeD 1 9) b0 (by simp)
  obtain ⟨nms, h2, e2, l2, p2, b2⟩ := shuffled_ok (xs := rangeD 1 7) b1 (by simp)
  obtain ⟨g, h3, e3, hg, b3⟩ := getE (sz := 4) b2 (by omega)
  obtain ⟨nl, rfl, q2⟩ := ints_sub (p := fun i => 1 ≤ i ∧ i ≤ 7) (ys := nms) fun y my => by
    obtain ⟨i, e, a, c⟩ := mem_range (p2 y my)
    exact ⟨i, e, a, by omega⟩
  have lm : mos.length = 9 := by simpa using l1
  have ln : nl.length = 7 := by simpa using l2
  have ec : cutL (nl.map D.int) none (some (1 + g)) = (nl.take (1 + g).toNat).map .int := by
    rw [show (some (1 + g) : Option Int) = some (((1 + g).toNat : Nat) : Int) by congr 1; omega, cutL_to, List.map_take]
  generalize hk : nl.take (1 + g).toNat = ks at ec
  have lk : ks.length ≤ 7 := by rw [← hk, List.length_take]; omega
  have qk : ∀ n ∈ ks, 1 ≤ n ∧ n ≤ 7 := fun n hn => q2 n (List.mem_of_mem_take (hk ▸ hn))
  have cell : ∀ {z : Cell} {h' : Hd}, BagE (t ++ e ++ [z]) h' → h'[h.length]? = some z := fun {z h'} b => by
    rw [hl, b.get (by simp)]; simp
  have upd : ∀ {z : Cell} {h' : Hd} (z' : Cell), BagE (t ++ e ++ [z]) h' → BagE (t ++ e ++ [z']) (h'.set h.length z') := fun {z h'} z' b => by
    have := b.set (r := (t ++ e).length) (by simp) z'
    rw [← hl] at this
    simpa using this
  obtain ⟨ρ', h4, e4, a6, a7, a8, ns, us, rfl, hu, hz, hn, ht, b4⟩ := forGo_invN (chk := fun h => lstOf h (.lst ((srtI ks).map .int)) = some ((srtI ks).map .int)) (g := gTupM 2 (gsCons (DD.gSet 6) (gsCons (DD.gSet 7) gsNil)))
    (b := mSeq (mSet 8 (mCalG 2 0 (fun ds _ => ds) m_law_pick (aCons (mVar 0) (aCons (mFz (mLst (aCons (mC (.int 0)) (aCons (mC (.int 0)) (aCons (mC (.int 0)) (aCons (mC (.int 1)) (aCons (mC (.int 2)) aNil))))))) aNil)) aNil))
    (mDPut (mVar 3) (mVar 7) (mTup (aCons (mCalG 2 0 (fun ds _ => ds) m_law_get (aCons (mVar 0) (aCons (mC (.int 2)) aNil)) aNil) (aCons (mIxD (mVar 4) (mVar 6)) (aCons (mCalG 2 0 (fun ds _ => ds) m_law_card (aCons (mVar 0) (aCons (mVar 1) aNil)) aNil) (aCons (mVar 8) aNil)))))))
    (fun n ρ h' => ∃ (a6 a7 a8 : Option D) (ns : List Int) (us : List D), ρ = [some (.ref 0), some (.lst (ws.map .str)), some (.int 4), some (.ref h.length), some (.lst mos), some (.lst (ks.map .int)), a6, a7, a8] ∧ us.length = ns.length ∧ ns.length + n ≤ 7 ∧ (∀ n ∈ ns, 1 ≤ n ∧ n ≤ 7) ∧ (∀ u ∈ us, ThingS ws u) ∧ BagE (t ++ e ++ [.dct (ns.map .int) us]) h')
    (fun _ _ _ _ => rfl) (enumD ((srtI ks).map .int)) [some (.ref 0), some (.lst (ws.map .str)), some (.int 4), some (.ref h.length), some (.lst mos), some (.lst (ks.map .int)), none, none, none] h3
    (fun d md n ρ h' ⟨a6, a7, a8, ns, us, er, hu, hz, hn, ht, b'⟩ => by
      subst er
      obtain ⟨i, x, rfl, i0, i1, mx⟩ := enum_mem md
      obtain ⟨k, mk, rfl⟩ := List.mem_map.mp mx
      have mk' := srtI_mem.mp mk
      rw [List.length_map, srtI_len] at i1
      obtain ⟨z, g1, f1, hz1, c1⟩ := pickE (xs := [.int 0, .int 0, .int 0, .int 1, .int 2]) b' (by simp)
      obtain ⟨mk, rfl⟩ : ∃ mk : Int, z = .int mk := by
        simp only [List.mem_cons, List.not_mem_nil, or_false] at hz1
        rcases hz1 with rfl | rfl | rfl | rfl | rfl <;> exact ⟨_, rfl⟩
      obtain ⟨hd, g2, f2, hd2, c2⟩ := getE (sz := 2) c1 (by omega)
      obtain ⟨mo, mmo, emo⟩ := atI_in (xs := mos) (i := i) (by omega)
      obtain ⟨mo, rfl, o1, o2⟩ := mem_range (p1 mo mmo)
      obtain ⟨cd, g3, f3, cs, c3⟩ := cardS c2 m
      obtain ⟨ns', us', ep, hu', hz', mu', mn'⟩ := putN_ok (n := k) (v := .tup [.int hd, .int mo, cd, .int mk]) (cell c3) hu (by omega)
      refine ⟨[some (.ref 0), some (.lst (ws.map .str)), some (.int 4), some (.ref h.length), some (.lst mos), some (.lst (ks.map .int)), some (.int i), some (.int k), a8],
        [some (.ref 0), some (.lst (ws.map .str)), some (.int 4), some (.ref h.length), some (.lst mos), some (.lst (ks.map .int)), some (.int i), some (.int k), some (.int mk)], _, by simp, ?_, ⟨_, _, _, ns', us', rfl, hu', by omega, ?_, ?_, upd _ c3⟩⟩
      · simp [f1, f2, emo, f3, ep]
      · intro q mq
        rcases mn' q mq with rfl | mq
        · exact qk _ mk'
        · exact hn q mq
      · intro u mu
        rcases mu' u mu with rfl | mu
        · exact ⟨hd, mo, cd, mk, rfl, by omega, by omega, cs⟩
        · exact ht u mu) ⟨none, none, none, [], [], rfl, rfl, by rw [enumD_len, List.length_map, srtI_len]; simpa using lk, by simp, by simp, b3⟩
  have f4 := cell b4
  refine ⟨ns, us, h4.set h.length .gone, ?_, hu, by omega, hn, ht, BagE.weak (e := e ++ [.gone]) (by simpa using upd .gone b4)⟩
  have es : srtF [.lst (ks.map .int)] h3 = .ok (.new (.lst ((srtI ks).map .int))) h3 := by
    simp [srtF, DD.listOf, lstOf, keysI_nums, show ks.length < 64 by omega]
  unfold m_law_board b_law_board
  simp at e4
  simp [e1, e2, e3, ec, es, e4, frzD, f4]
end Law
set_option Elab.async false
set_option linter.all false
set_option maxRecDepth 100000
set_option maxHeartbeats 4000000
namespace Law
open PySem PySem.Spec L2 RZ DD
/-! ## how big things are when they are shown -/
structure Bd (n p : Nat) (d : D) : Prop where
  py : isPyX d = true
  sh : (pyX d).showable = true
  lf : (pyX d).leavesShort 13 = true
  bk : (pyX d).bulk ≤ n
  dp : (pyX d).depth ≤ p
structure BdA (n p : Nat) (ds : List D) : Prop where
  py : isPyXs ds = true
  sh : PyData.showableAll (pyXs ds) = true
  lf : PyData.leavesShortAll 13 (pyXs ds) = true
  bk : PyData.bulkAll (pyXs ds) ≤ n
  dp : PyData.depthAll (pyXs ds) ≤ p
theorem Bd.mono {n p m q : Nat} {d : D} (b : Bd n p d) (h1 : n ≤ m) (h2 : p ≤ q) : Bd m q d := ⟨b.py, b.sh, b.lf, Nat.le_trans b.bk h1, Nat.le_trans b.dp h2⟩
theorem BdA.mono {n p m q : Nat} {d : List D} (b : BdA n p d) (h1 : n ≤ m) (h2 : p ≤ q) : BdA m q d := ⟨b.py, b.sh, b.lf, Nat.le_trans b.bk h1, Nat.le_trans b.dp h2⟩
theorem bda_nil : BdA 0 0 [] := ⟨rfl, rfl, rfl, Nat.le_refl _, Nat.le_refl _⟩
theorem bda_cons {n p m q : Nat} {d : D} {ds : List D} (a : Bd n p d) (b : BdA m q ds) : BdA (n + 1 + m) (max p q) (d :: ds) := by
  refine ⟨?_, ?_, ?_, ?_, ?_⟩
  · simp only [isPyXs, a.py, b.py]; rfl
  · simp only [pyXs_cons, PyData.showableAll, a.sh, b.sh]; rfl
  · simp only [pyXs_cons, PyData.leavesShortAll, a.lf, b.lf]; rfl
  · have := a.bk; have := b.bk
    simp only [pyXs_cons, PyData.bulkAll]; omega
  · have := a.dp; have := b.dp
    simp only [pyXs_cons, PyData.depthAll]; omega
theorem bda_all {n p : Nat} : ∀ {ds : List D} (k : Nat), (∀ d ∈ ds, Bd n p d) → ds.length ≤ k → BdA (k * (n + 1)) p ds
  | [], k, _, _ => bda_nil.mono (Nat.zero_le _) (Nat.zero_le _)
  | d :: ds, k, h, hl => by
    obtain ⟨j, rfl⟩ : ∃ j, k = j + 1 := ⟨k - 1, by simp at hl; omega⟩
    have := bda_cons (h d (by simp)) (bda_all (ds := ds) j (fun x m => h x (List.mem_cons_of_mem _ m)) (by simpa using hl))
    exact this.mono (by rw [Nat.succ_mul]; omega) (by omega)
theorem bd_tup {n p : Nat} {ds : List D} (b : BdA n p ds) : Bd n (p + 1) (.tup ds) := ⟨by simp only [isPyX, b.py], by simp only [pyX, PyData.showable, b.sh], by simp only [pyX, PyData.leavesShort, b.lf], by simp only [pyX, PyData.bulk]; exact b.bk, by have := b.dp; simp only [pyX, PyData.depth]; omega⟩
theorem bd_lst {n p : Nat} {ds : List D} (b : BdA n p ds) : Bd n (p + 1) (.lst ds) := ⟨by simp only [isPyX, b.py], by simp only [pyX, PyData.showable, b.sh], by simp only [pyX, PyData.leavesShort, b.lf], by simp only [pyX, PyData.bulk]; exact b.bk, by have := b.dp; simp only [pyX, PyData.depth]; omega⟩
theorem bd_str {n : Nat} {s : Str} (h : s.length ≤ n) (o : sOk s) : Bd n 0 (.str s) := by
  refine ⟨rfl, rfl, ?_, h, Nat.le_refl _⟩
  simp only [pyX, PyData.leavesShort, List.all_eq_true, decide_eq_true_eq]
  intro c hc
  have := sOk_iff.mp o c hc
  omega
theorem small_ints : ∀ n : Fin 201, (PyData.int ((n.val : Int) - 100)).leavesShort 13 = true ∧ (PyData.int ((n.val : Int) - 100)).showable = true := by decide +kernel
theorem bd_int {i : Int} (h : -100 ≤ i ∧ i ≤ 100) : Bd 0 0 (.int i) := by
  have := small_ints ⟨(i + 100).toNat, by omega⟩
  have e : (((i + 100).toNat : Nat) : Int) - 100 = i := by omega
  simp only [e] at this
  exact ⟨rfl, by simp only [pyX]; exact this.2, by simp only [pyX]; exact this.1, by simp [pyX, PyData.bulk], by simp [pyX, PyData.depth]⟩
/-- keys -/
structure KeyB (n : Nat) (k : D) : Prop where
  sh : (keyP k).showable = true
  lf : (keyP k).leavesShort 13 = true
  bk : (keyP k).bulk ≤ n
  dp : (keyP k).depth = 0
theorem key_int {i : Int} (h : -100 ≤ i ∧ i ≤ 100) : KeyB 0 (.int i) := by
  have b := bd_int h
  exact ⟨b.sh, b.lf, b.bk, rfl⟩
theorem key_str {n : Nat} {s : Str} (h : s.length ≤ n) (o : sOk s) : KeyB n (.str s) := by
  have b := bd_str h o
  exact ⟨b.sh, b.lf, b.bk, rfl⟩
theorem bdk {kb : Nat} : ∀ {ks us : List D} {n p : Nat}, (∀ k ∈ ks, KeyB kb k) → BdA n p us → PyData.showableKv (pyXk ks us) = true ∧ PyData.leavesShortKv 13 (pyXk ks us) = true ∧ PyData.bulkKv (pyXk ks us) ≤ PyData.bulkAll (pyXs us) + us.length * (kb + 1) ∧ PyData.depthKv (pyXk ks us) ≤ p
  | [], us, n, p, _, _ => by
    have e : pyXk [] us = [] := by cases us <;> simp [pyXk]
    rw [e]
    exact ⟨rfl, rfl, Nat.zero_le _, Nat.zero_le _⟩
  | k :: ks, [], n, p, _, _ => by
    have e : pyXk (k :: ks) [] = [] := by simp [pyXk]
    rw [e]
    exact ⟨rfl, rfl, Nat.zero_le _, Nat.zero_le _⟩
  | k :: ks, u :: us, n, p, hk, b => by
    have b' : Bd (pyX u).bulk p u ∧ BdA (PyData.bulkAll (pyXs us)) p us := by
      obtain ⟨a1, a2, a3, a4, a5⟩ := b
      simp only [isPyXs, pyXs_cons, PyData.showableAll, PyData.leavesShortAll, PyData.depthAll, Bool.and_eq_true] at a1 a2 a3 a5
      exact ⟨⟨a1.1, a2.1, a3.1, Nat.le_refl _, by omega⟩, ⟨a1.2, a2.2, a3.2, Nat.le_refl _, by omega⟩⟩
    obtain ⟨i1, i2, i3, i4⟩ := bdk (ks := ks) (us := us) (fun k m => hk k (List.mem_cons_of_mem _ m)) b'.2
    have kk := hk k (by simp)
    rw [pyXk_cons]
    refine ⟨?_, ?_, ?_, ?_⟩
    · simp only [PyData.showableKv, kk.sh, b'.1.sh, i1]; rfl
    · simp only [PyData.leavesShortKv, kk.lf, b'.1.lf, i2]; rfl
    · have := kk.bk
      simp only [PyData.bulkKv, pyXs_cons, PyData.bulkAll, List.length_cons, Nat.succ_mul]
      omega
    · have := b'.1.dp
      have := kk.dp
      simp only [PyData.depthKv]
      omega
theorem bd_dct {kb n p m : Nat} {ks us : List D} (hk : ∀ k ∈ ks, KeyB kb k) (b : BdA n p us) (hm : n + us.length * (kb + 1) ≤ m) : Bd m (p + 1) (.dct ks us) := by
  obtain ⟨a1, a2, a3, a4⟩ := bdk hk b
  have := b.bk
  exact ⟨by simp only [isPyX, b.py], by simp only [pyX, PyData.showable, a1], by simp only [pyX, PyData.leavesShort, a2], by simp only [pyX, PyData.bulk]; omega, by simp only [pyX, PyData.depth]; omega⟩
theorem Bd.fits {n p : Nat} {d : D} (b : Bd n p d) (h : n ≤ 1000000) : Fits (pyX d) := ⟨b.sh, b.lf, by have := b.bk; omega⟩
end Law
set_option Elab.async false
set_option linter.all false
set_option maxRecDepth 100000
set_option maxHeartbeats 4000000
namespace Law
open PySem PySem.Spec L2 RZ DD
theorem okS_bd {s : Str} (h : okS 20 s = true) : Bd 20 0 (.str s) := by
  simp only [okS, Bool.and_eq_true, decide_eq_true_eq] at h
  exact bd_str h.1 h.2
theorem tag {s : Str} (h : s.length ≤ 10 ∧ sOk s) : Bd 10 0 (.str s) := bd_str h.1 h.2
section
variable {ws : List Str} (hw : ∀ s ∈ ws, okS 20 s = true) (hl : ws.length ≤ 10)
def bb : Nat → Nat
  | 0 => 40
  | k + 1 => 2 * bb k + 20
theorem bb_ge : ∀ k, 40 ≤ bb k
  | 0 => Nat.le_refl _
  | k + 1 => by have := bb_ge k; simp only [bb]; omega
theorem t1 {s : Str} (h : Bd 10 0 (.str s)) : BdA 11 0 [.str s] := bda_cons h bda_nil
theorem t2 {s : Str} {d : D} {n p : Nat} (h : Bd 10 0 (.str s)) (g : Bd n p d) : BdA (n + 12) p [.str s, d] := (bda_cons h (bda_cons g bda_nil)).mono (by omega) (by omega)
theorem t3 {s : Str} {d e : D} {n p m q : Nat} (h : Bd 10 0 (.str s)) (g : Bd n p d) (f : Bd m q e) : BdA (n + m + 13) (max p q) [.str s, d, e] := (bda_cons h (bda_cons g (bda_cons f bda_nil))).mono (by omega) (by omega)
theorem t4 {s : Str} {d e c : D} {n p m q l r : Nat} (h : Bd 10 0 (.str s)) (g : Bd n p d) (f : Bd m q e) (i : Bd l r c) : BdA (n + m + l + 14) (max p (max q r)) [.str s, d, e, c] := (bda_cons h (bda_cons g (bda_cons f (bda_cons i bda_nil)))).mono (by omega) (by omega)
def litL : List Str := Str.ofString "any" :: Str.ofString "self" :: Str.ofString "other" :: Str.ofString "mine" :: Str.ofString "kind" :: Str.ofString "colour" :: Str.ofString "least" :: Str.ofString "not" :: Str.ofString "both" :: Str.ofString "either" :: Str.ofString "hand" :: Str.ofString "ours" :: Str.ofString "read" :: Str.ofString "be" :: Str.ofString "also" :: Str.ofString "hue" :: Str.ofString "tint" :: Str.ofString "bare" :: Str.ofString "size" :: Str.ofString "more" :: Str.ofString "each" :: Str.ofString "turn" :: Str.ofString "none" :: Str.ofString "aside" :: Str.ofString "mark" :: Str.ofString "strike" :: Str.ofString "twice" :: Str.ofString "less" :: Str.ofString "it" :: Str.ofString "go" :: Str.ofString "last" :: Str.ofString "gain" :: Str.ofString "stand" :: Str.ofString "instead" :: Str.ofString "when" :: Str.ofString "fall" :: Str.ofString "come" :: Str.ofString "kinds" :: Str.ofString "colours" :: Str.ofString "force" :: Str.ofString "guard" :: Str.ofString "writs" :: []
theorem lits : ∀ s ∈ litL, s.length ≤ 10 ∧ sOk s := by
  unfold sOk litL
  decide +kernel
theorem lt {s : Str} (h : s ∈ litL) : Bd 10 0 (.str s) := tag (lits s h)
include hw
theorem bd_cond {k : Nat} {c : D} (h : CondS ws k c) : Bd (bb k) (k + 1) c := by
  induction h with
  | any k => have := bb_ge k; exact (bd_tup (t1 (lt (by simp [litL])))).mono (by omega) (by omega)
  | self k => have := bb_ge k; exact (bd_tup (t1 (lt (by simp [litL])))).mono (by omega) (by omega)
  | other k => have := bb_ge k; exact (bd_tup (t1 (lt (by simp [litL])))).mono (by omega) (by omega)
  | mine k => have := bb_ge k; exact (bd_tup (t1 (lt (by simp [litL])))).mono (by omega) (by omega)
  | kind k h => have := bb_ge k; exact (bd_tup (t2 (lt (by simp [litL])) (okS_bd (hw _ h)))).mono (by omega) (by omega)
  | colour k h => have := bb_ge k; exact (bd_tup (t2 (lt (by simp [litL])) (okS_bd (hw _ h)))).mono (by omega) (by omega)
  | least k h => have := bb_ge k; exact (bd_tup (t2 (lt (by simp [litL])) (bd_int (by omega)))).mono (by omega) (by omega)
  | not h ih => exact (bd_tup (t2 (lt (by simp [litL])) ih)).mono (by simp only [bb]; omega) (by omega)
  | both h g ih ih2 => exact (bd_tup (t3 (lt (by simp [litL])) ih ih2)).mono (by simp only [bb]; omega) (by omega)
  | either h g ih ih2 => exact (bd_tup (t3 (lt (by simp [litL])) ih ih2)).mono (by simp only [bb]; omega) (by omega)
theorem bd_cond1 {c : D} (h : CondS ws 1 c) : Bd 100 2 c := bd_cond hw h
include hl
theorem bd_words {us : List Str} (h : WordsS ws us) : Bd 210 1 (.tup (us.map .str)) := by
  have hu : (us.map D.str).length ≤ 10 := by rw [List.length_map]; have := h.1; omega
  refine bd_tup (bda_all (n := 20) (p := 0) (ds := us.map D.str) 10 (fun d md => ?_) hu)
  obtain ⟨s, ms, rfl⟩ := List.mem_map.mp md
  exact okS_bd (hw s (h.2.1 s ms))
theorem bd_change {L : Int} {d : D} (h : ChangeS ws L d) : Bd 300 4 d := by
  cases h with
  | hand h => exact (bd_tup (t2 (lt (by simp [litL])) (bd_int (by omega)))).mono (by omega) (by omega)
  | ours => exact (bd_tup (t1 (lt (by simp [litL])))).mono (by omega) (by omega)
  | read h g => exact (bd_tup (t3 (lt (by simp [litL])) (okS_bd (hw _ h)) (okS_bd (hw _ g)))).mono (by omega) (by omega)
  | be h => exact (bd_tup (t2 (lt (by simp [litL])) (bd_words hw hl h))).mono (by omega) (by omega)
  | also h => exact (bd_tup (t2 (lt (by simp [litL])) (okS_bd (hw _ h)))).mono (by omega) (by omega)
  | hue h => exact (bd_tup (t2 (lt (by simp [litL])) (bd_words hw hl h))).mono (by omega) (by omega)
  | tint h => exact (bd_tup (t2 (lt (by simp [litL])) (okS_bd (hw _ h)))).mono (by omega) (by omega)
  | bare => exact (bd_tup (t1 (lt (by simp [litL])))).mono (by omega) (by omega)
  | size h g => exact (bd_tup (t3 (lt (by simp [litL])) (bd_int (by omega)) (bd_int (by omega)))).mono (by omega) (by omega)
  | more h g => exact (bd_tup (t3 (lt (by simp [litL])) (bd_int (by omega)) (bd_int (by omega)))).mono (by omega) (by omega)
  | each c2 h g => exact (bd_tup (t4 (lt (by simp [litL])) (bd_cond1 hw c2) (bd_int (by omega)) (bd_int (by omega)))).mono (by omega) (by omega)
  | turn => exact (bd_tup (t1 (lt (by simp [litL])))).mono (by omega) (by omega)
omit hw hl in
theorem way_tag {w f : Str} (h : f ∈ wayL w) : Bd 10 0 (.str f) := by
  unfold wayL at h
  split at h
  · simp only [List.mem_cons, List.not_mem_nil, or_false] at h
    rcases h with rfl | rfl | rfl | rfl <;> exact lt (by simp [litL])
  · split at h
    · simp only [List.mem_cons, List.not_mem_nil, or_false] at h
      subst h; exact lt (by simp [litL])
    · split at h
      · simp only [List.mem_cons, List.not_mem_nil, or_false] at h
        rcases h with rfl | rfl | rfl | rfl <;> exact lt (by simp [litL])
      · simp only [List.mem_cons, List.not_mem_nil, or_false] at h
        rcases h with rfl | rfl | rfl <;> exact lt (by simp [litL])
omit hw hl in
theorem bd_way {w : Str} {d : D} (h : WayS w d) : Bd 40 1 d := by
  cases h with
  | bare h g => exact (bd_tup (t1 (way_tag h))).mono (by omega) (by omega)
  | much h g l => exact (bd_tup (t2 (way_tag h) (bd_int (by omega)))).mono (by omega) (by omega)
omit hl in
theorem bd_whom {d : D} (h : WhomS ws d) : Bd 100 2 d := by
  cases h with
  | it => exact (bd_tup (t1 (lt (by simp [litL])))).mono (by omega) (by omega)
  | cond h => exact bd_cond1 hw h
theorem bd_act {d : D} (h : ActS ws d) : Bd 450 5 d := by
  cases h with
  | strike h l => exact (bd_tup (t3 (lt (by simp [litL])) (bd_whom hw h) (bd_int (by omega)))).mono (by omega) (by omega)
  | mark h l => exact (bd_tup (t3 (lt (by simp [litL])) (bd_whom hw h) (bd_int (by omega)))).mono (by omega) (by omega)
  | go h => exact (bd_tup (t2 (lt (by simp [litL])) (bd_whom hw h))).mono (by omega) (by omega)
  | last h g l => exact (bd_tup (t3 (lt (by simp [litL])) (bd_cond1 hw h) (bd_change hw hl g))).mono (by omega) (by omega)
theorem bd_row {N : D → Prop} {a p : Nat} (hN : ∀ x, N x → Bd a p x) : ∀ {Ls : List Int} {xs : List D}, RowS ws N Ls xs → ∀ x ∈ xs, Bd (300 + a + 12) (4 + p + 1) x
  | _, _, .nil, x, m => by cases m
  | _, _, .change h r, x, m => by
    rcases List.mem_cons.mp m with rfl | m
    · exact (bd_change hw hl h).mono (by omega) (by omega)
    · exact bd_row hN r x m
  | _, _, .gain h r, x, m => by
    rcases List.mem_cons.mp m with rfl | m
    · exact (bd_tup (t2 (lt (by simp [litL])) (hN _ h))).mono (by omega) (by omega)
    · exact bd_row hN r x m
theorem bd_writ {N : D → Prop} {a p : Nat} (hN : ∀ x, N x → Bd a p x) {d : D} (h : WritS ws N d) : Bd (3 * (300 + a + 13) + 800) (p + 8) d := by
  cases h with
  | stand h =>
    cases h with
    | mk h r l s m =>
      have b := bd_tup (bda_all 3 (bd_row hw hl hN r) (by rw [← r.len]; exact l.2))
      exact (bd_tup (t3 (lt (by simp [litL])) (bd_cond1 hw h) b)).mono (by omega) (by omega)
  | @instead w c y hm h g =>
    have hw' : Bd 10 0 (.str w) := by
      simp only [List.mem_cons, List.not_mem_nil, or_false] at hm
      rcases hm with rfl | rfl | rfl | rfl <;> exact lt (by simp [litL])
    exact (bd_tup (t4 (lt (by simp [litL])) hw' (bd_cond1 hw h) (bd_way g))).mono (by omega) (by omega)
  | @when w c y hm h g =>
    have hw' : Bd 10 0 (.str w) := by
      simp only [List.mem_cons, List.not_mem_nil, or_false] at hm
      rcases hm with rfl | rfl | rfl | rfl <;> exact lt (by simp [litL])
    exact (bd_tup (t4 (lt (by simp [litL])) hw' (bd_cond1 hw h) (bd_act hw hl g))).mono (by omega) (by omega)
theorem bd_writF {d : D} (h : WritF ws d) : Bd 1739 8 d := bd_writ hw hl (N := noGain) (a := 0) (p := 0) (fun x z => z.elim) h
theorem bd_writT {d : D} (h : WritT ws d) : Bd 7000 16 d := (bd_writ hw hl (N := WritF ws) (a := 1739) (p := 8) (fun x z => bd_writF hw hl z) h).mono (by omega) (by omega)
end
end Law
set_option Elab.async false
set_option linter.all false
set_option maxRecDepth 100000
set_option maxHeartbeats 4000000
namespace Law
open PySem PySem.Spec L2 RZ DD
/-! the law's statements, by names (printed by mkst07.py) -/
noncomputable def s1 : MS := (mSet 1 (mCalG 1 0 (fun ds _ => ds) m_law_bag (aCons (mVar 0) aNil) aNil))
noncomputable def s2 : MS := (mSet 2 (mCalG 1 0 (fun ds _ => ds) m_law_menu (aCons (mVar 1) aNil) aNil))
noncomputable def s3 : MS := (mSet 3 (mCalG 3 0 (fun ds _ => ds) m_law_board (aCons (mVar 1) (aCons (mVar 2) (aCons (mC (.int 4)) aNil))) aNil))
noncomputable def s4 : MS := (mSet 4 (mOwn mDict0))
noncomputable def s5_1 : MS := (mSet 6 (mCalG 4 0 (fun ds _ => ds) m_law_look (aCons (mVar 5) (aCons (mIxD (mIxD (mVar 3) (mVar 5)) (mC (.int 0))) (aCons (mIxD (mIxD (mVar 3) (mVar 5)) (mC (.int 1))) (aCons (mIxD (mIxD (mVar 3) (mVar 5)) (mC (.int 2))) aNil)))) aNil))
noncomputable def s5_2 : MS := (mDPut (mVar 4) (mVar 5) (mCalG 3 0 (fun ds _ => ds) m_law_with (aCons (mVar 6) (aCons (mC (.str "writs")) (aCons (mFz (mLc [7, 8] (mIterD (mIxD (mVar 6) (mC (.str "writs")))) (gTupM 2 (gsCons (gSet 7) (gsCons (gSet 8) gsNil))) tYesM (mVar 8))) aNil))) aNil))
noncomputable def body5 : MS := (mSeq s5_1 s5_2)
noncomputable def s5 : MS := (mFor (mIterD (mCalG 2 0 (fun ds _ => ds) m_law_shuffled (aCons (mVar 1) (aCons (mFz (mBi listDF (aCons (mVar 3) aNil))) aNil)) aNil)) (gSet 5) body5)
noncomputable def s6 : MS := (mFzV 4 (mSet 9 (mFz (mBi reprF (aCons (mVar 4) aNil)))))
noncomputable def s7_1 : MS := (mSet 11 (mCalG 3 0 (fun ds _ => ds) m_law_cond (aCons (mVar 1) (aCons (mVar 2) (aCons (mC (.int 4)) aNil))) aNil))
noncomputable def s7_2 : MS := (mSet 12 (mCalG 2 0 (fun ds _ => ds) m_law_pick (aCons (mVar 1) (aCons (mFz (mBin addF (mFz (mBi listDF (aCons (mVar 4) aNil))) (mFz (mLst (aCons (mC (.int 0)) (aCons (mC (.int 9)) aNil)))))) aNil)) aNil))
noncomputable def s7_3 : MS := (mSet 13 (mCalG 2 0 (fun ds _ => ds) m_law_get (aCons (mVar 1) (aCons (mC (.int 3)) aNil)) aNil))
noncomputable def s7_4 : MS := (mSet 14 (mCalG 4 0 (fun ds _ => ds) m_law_whom (aCons (mVar 11) (aCons (mVar 4) (aCons (mVar 12) (aCons (mVar 13) aNil)))) aNil))
noncomputable def s7_5 : MS := (mIfS (mNot (mTru (mCalG 2 0 (fun ds _ => ds) m_law_same (aCons (mCalG 2 2 (fun ds es => pickL [0, 1, 2, 3] (ds ++ es)) mtaken (aCons (mVar 11) (aCons (mVar 4) aNil)) (aCons (mVar 12) (aCons (mVar 13) aNil))) (aCons (mVar 14) aNil)) aNil))) (mRet (mC (.bl false))) mNil)
noncomputable def s7_6 : MS := (mFor (mIterD (mVar 4)) (gSet 5) (mIfS (mNot (mTru (mCalG 2 0 (fun ds _ => ds) m_law_same (aCons (mCalG 3 2 (fun ds es => pickL [0, 1, 2, 4, 3] (ds ++ es)) mtakes (aCons (mVar 11) (aCons (mVar 4) (aCons (mVar 5) aNil))) (aCons (mVar 13) (aCons (mVar 12) aNil))) (aCons (mB (mCmp cInD (mVar 5) (mVar 14))) aNil)) aNil))) (mRet (mC (.bl false))) mNil))
noncomputable def s7_7 : MS := (mIfS (mNot (mTru (mCalG 2 0 (fun ds _ => ds) m_law_same (aCons (mCalG 2 0 (fun ds es => pickL [0, 1, 2, 3] (ds ++ ([.int (0), .non] ++ es))) mtaken (aCons (mVar 11) (aCons (mVar 4) aNil)) aNil) (aCons (mCalG 4 0 (fun ds _ => ds) m_law_whom (aCons (mVar 11) (aCons (mVar 4) (aCons (mC (.int 0)) (aCons (mC .non) aNil)))) aNil) aNil)) aNil))) (mRet (mC (.bl false))) mNil)
noncomputable def body7 : MS := (mSeq s7_1 (mSeq s7_2 (mSeq s7_3 (mSeq s7_4 (mSeq s7_5 (mSeq s7_6 s7_7))))))
noncomputable def s7 : MS := (mFor (mSrc (fun _ => range1F) (aCons (mC (.int 6)) aNil)) (gSet 10) body7)
noncomputable def s8 : MS := (mRet (mAndV (mB (mCmp cEq (mFz (mBi reprF (aCons (mVar 4) aNil))) (mVar 9))) (mCalG 2 0 (fun ds _ => ds) m_law_same (aCons (mCalG 2 0 (fun ds es => pickL [0, 1, 2, 3] (ds ++ ([.int (0), .non] ++ es))) mtaken (aCons (mTup (aCons (mC (.str "any")) aNil)) (aCons (mFz mDict0) aNil)) aNil) (aCons (mTup aNil) aNil)) aNil)))
theorem law_eq : blaw = (mSeq s1 (mSeq s2 (mSeq s3 (mSeq s4 (mSeq s5 (mSeq s6 (mSeq s7 s8))))))) := rfl
end Law
set_option Elab.async false
set_option linter.all false
set_option maxRecDepth 100000
set_option maxHeartbeats 4000000
namespace Law
open PySem PySem.Spec L2 RZ DD
/-! ## the looks are put in -/
def LookW (ws : List Str) (u : D) : Prop := ∃ (hd : Int) (us vs : List Str) (fo gu : Int) (wr : List D), u = .dct lk [.int hd, .tup (us.map .str), .tup (vs.map .str), .int fo, .int gu, .lst wr] ∧ (0 ≤ hd ∧ hd ≤ 1) ∧ WordsS ws us ∧ WordsS ws vs ∧ (-1 ≤ fo ∧ fo ≤ 4) ∧ (1 ≤ gu ∧ gu ≤ 6) ∧ wr.length ≤ 3 ∧ ∀ x ∈ wr, WritT ws x
theorem LookW.s {ws : List Str} {u : D} (h : LookW ws u) : LookS u := by
  obtain ⟨hd, us, vs, fo, gu, wr, e, _⟩ := h
  exact ⟨hd, us, vs, fo, gu, _, e⟩
theorem lk_keys : ∀ k ∈ lk, KeyB 10 k := by
  intro k hk
  simp only [lk, List.mem_cons, List.not_mem_nil, or_false] at hk
  rcases hk with rfl | rfl | rfl | rfl | rfl | rfl <;> exact key_str (lits _ (by simp [litL])).1 (lits _ (by simp [litL])).2
theorem bd_look {ws : List Str} (hw : ∀ s ∈ ws, okS 20 s = true) (hl : ws.length ≤ 10) {u : D} (h : LookW ws u) : Bd 22000 18 u := by
  obtain ⟨hd, us, vs, fo, gu, wr, rfl, hd1, w1, w2, f1, g1, l, q⟩ := h
  have b := bda_cons (bd_int (i := hd) (by omega)) (bda_cons (bd_words hw hl w1) (bda_cons (bd_words hw hl w2) (bda_cons (bd_int (i := fo) (by omega)) (bda_cons (bd_int (i := gu) (by omega)) (bda_cons (bd_lst (bda_all 3 (fun x m => bd_writT hw hl (q x m)) l)) bda_nil)))))
  exact (bd_dct lk_keys b (Nat.le_refl _)).mono (by simp) (by omega)
theorem bd_state {ws : List Str} (hw : ∀ s ∈ ws, okS 20 s = true) (hl : ws.length ≤ 10) {ns : List Int} {us : List D} (hn : ∀ n ∈ ns, 1 ≤ n ∧ n ≤ 7) (hu : us.length = ns.length) (hz : ns.length ≤ 7) (q : ∀ u ∈ us, LookW ws u) : Bd 200000 19 (.dct (ns.map .int) us) := by
  have b := bda_all 7 (fun u m => bd_look hw hl (q u m)) (by omega : us.length ≤ 7)
  refine (bd_dct (kb := 0) (fun k hk => ?_) b (Nat.le_refl _)).mono (by omega) (by omega)
  obtain ⟨n, m, rfl⟩ := List.mem_map.mp hk
  exact key_int (by have := hn n m; omega)
theorem repr_ok {ws : List Str} (hw : ∀ s ∈ ws, okS 20 s = true) (hl : ws.length ≤ 10) {ns : List Int} {us : List D} (hn : ∀ n ∈ ns, 1 ≤ n ∧ n ≤ 7) (hu : us.length = ns.length) (hz : ns.length ≤ 7) (q : ∀ u ∈ us, LookW ws u) (h : Hd) :
    reprF [.dct (ns.map .int) us] h = .ok (.val (.str (pyX (.dct (ns.map .int) us)).shown)) h := by
  have b := bd_state hw hl hn hu hz q
  unfold reprF
  exact if_pos ⟨rfl, b.py, b.fits (by omega), by have := b.dp; omega⟩
section
variable {ws : List Str} {t h : Hd} {s0 a7 a8 a9 a10 a11 a12 a13 a14 : Option D} {ns : List Int} {us : List D}
theorem named_in {mo num : Int} {wr : List D} {d : D} (m : d ∈ (enumD wr).map (namedD mo num)) : ∃ z x, d = .tup [z, x] := by
  obtain ⟨d', m', rfl⟩ := List.mem_map.mp m
  obtain ⟨i, x, rfl⟩ := enum_in m'
  exact ⟨_, x, rfl⟩
theorem body5_ok {r : Nat} {n : Int} {a6 : Option D} (hn : n ∈ ns) (hu : us.length = ns.length) (ht : ∀ u ∈ us, ThingS ws u) (b : BagE t h) : ∃ (u x6 : D) (h1 : Hd), LookW ws u ∧ BagE t h1 ∧
    ∀ h2, dputF (.ref r) (.int n) u h1 = some h2 → body5 [s0, some (.ref 0), some (.lst (ws.map .str)), some (.dct (ns.map .int) us), some (.ref r), some (.int n), a6, a7, a8, a9, a10, a11, a12, a13, a14] h =
      .nx [s0, some (.ref 0), some (.lst (ws.map .str)), some (.dct (ns.map .int) us), some (.ref r), some (.int n), some x6, a7, a8, a9, a10, a11, a12, a13, a14] h2 := by
  obtain ⟨u, mu, ev⟩ := (val_int n hu).1 hn
  obtain ⟨hd, mo, c, mk, rfl, hd1, mo1, us1, vs1, fo, gu, wr, rfl, w1, w2, f1, g1, l, q⟩ := ht u mu
  obtain ⟨h1, e1, b1⟩ := look_ok (num := n) (hd := hd) (mo := mo) (a := .tup (us1.map .str)) (b := .tup (vs1.map .str)) (fo := fo) (gu := gu) (wr := wr) b (by omega)
  obtain ⟨h2, e2, b2⟩ := with_ok (a := .int hd) (b := .tup (us1.map .str)) (c := .tup (vs1.map .str)) (d := .int fo) (e := .int gu) (f := .lst ((enumD wr).map (namedD mo n))) (v := .lst wr) b1
  refine ⟨.dct lk [.int hd, .tup (us1.map .str), .tup (vs1.map .str), .int fo, .int gu, .lst wr], .dct lk [.int hd, .tup (us1.map .str), .tup (vs1.map .str), .int fo, .int gu, .lst ((enumD wr).map (namedD mo n))], h2, ⟨hd, us1, vs1, fo, gu, wr, rfl, hd1, w1, w2, f1, g1, l, q⟩, b2, fun h3 ep => ?_⟩
  have lc := lcGo_pure (chk := fun _ => True) (g := gTupM 2 (gsCons (DD.gSet 7) (gsCons (DD.gSet 8) gsNil))) (t := tYesM) (e := mVar 8)
    (ρ := [s0, some (.ref 0), some (.lst (ws.map .str)), some (.dct (ns.map .int) us), some (.ref r), some (.int n), some (.dct lk [.int hd, .tup (us1.map .str), .tup (vs1.map .str), .int fo, .int gu, .lst ((enumD wr).map (namedD mo n))]), none, none, a9, a10, a11, a12, a13, a14]) (h := h1) sndD trivial ((enumD wr).map (namedD mo n)) []
    (fun d md => by
      obtain ⟨z, x, rfl⟩ := named_in md
      exact ⟨[s0, some (.ref 0), some (.lst (ws.map .str)), some (.dct (ns.map .int) us), some (.ref r), some (.int n), some (.dct lk [.int hd, .tup (us1.map .str), .tup (vs1.map .str), .int fo, .int gu, .lst ((enumD wr).map (namedD mo n))]), some z, some x, a9, a10, a11, a12, a13, a14], by simp, rfl, by simp [sndD]⟩) (by simpa [enumD_len] using sz_small (n := wr.length) (by omega))
  rw [snd_named] at lc
  unfold body5 s5_1 s5_2
  simp only [List.nil_append] at lc
  simp [ev, at0, at1, at2, e1, lk_writs, lc, e2, ep]
theorem st5_ok {a5 a6 : Option D} (hn : ∀ n ∈ ns, 1 ≤ n ∧ n ≤ 7) (hu : us.length = ns.length) (hz : ns.length ≤ 7) (ht : ∀ u ∈ us, ThingS ws u) (b : BagE t h) (a7 a8 a9 a10 a11 a12 a13 a14 : Option D) :
    ∃ (r : Nat) (ms : List Int) (vs : List D) (x5 x6 : Option D) (h' : Hd), mSeq s4 (mSeq s5 s6) [s0, some (.ref 0), some (.lst (ws.map .str)), some (.dct (ns.map .int) us), none, a5, a6, a7, a8, a9, a10, a11, a12, a13, a14] h =
      s6 [s0, some (.ref 0), some (.lst (ws.map .str)), some (.dct (ns.map .int) us), some (.ref r), x5, x6, a7, a8, a9, a10, a11, a12, a13, a14] h' ∧ h'[r]? = some (.dct (ms.map .int) vs) ∧ vs.length = ms.length ∧ ms.length ≤ 7 ∧ (∀ n ∈ ms, 1 ≤ n ∧ n ≤ 7) ∧ (∀ u ∈ vs, LookW ws u) ∧ BagE t (h'.set r .gone) := by
  obtain ⟨e, hl, b0⟩ := b.new (.dct [] [])
  obtain ⟨ys, h1, e1, l1, p1, b1⟩ := shuffled_ok (xs := ns.map .int) b0 (by rw [List.length_map]; omega)
  have cell : ∀ {z : Cell} {h' : Hd}, BagE (t ++ e ++ [z]) h' → h'[h.length]? = some z := fun {z h'} b => by
    rw [hl, b.get (by simp)]; simp
  have upd : ∀ {z : Cell} {h' : Hd} (z' : Cell), BagE (t ++ e ++ [z]) h' → BagE (t ++ e ++ [z']) (h'.set h.length z') := fun {z h'} z' b => by
    have := b.set (r := (t ++ e).length) (by simp) z'
    rw [← hl] at this
    simpa using this
  obtain ⟨ρ', h2, e2, x5, x6, ms, vs, rfl, hv, hm, hk, hq, b2⟩ := forGo_invN (chk := fun _ => True) (g := DD.gSet 5) (b := body5)
    (fun n ρ h' => ∃ (x5 x6 : Option D) (ms : List Int) (vs : List D), ρ = [s0, some (.ref 0), some (.lst (ws.map .str)), some (.dct (ns.map .int) us), some (.ref h.length), x5, x6, a7, a8, a9, a10, a11, a12, a13, a14] ∧ vs.length = ms.length ∧ ms.length + n ≤ 7 ∧ (∀ n ∈ ms, 1 ≤ n ∧ n ≤ 7) ∧ (∀ u ∈ vs, LookW ws u) ∧ BagE (t ++ e ++ [.dct (ms.map .int) vs]) h')
    (fun _ _ _ _ => trivial) ys [s0, some (.ref 0), some (.lst (ws.map .str)), some (.dct (ns.map .int) us), some (.ref h.length), a5, a6, a7, a8, a9, a10, a11, a12, a13, a14] h1
    (fun d md n ρ h' ⟨x5, x6, ms, vs, er, hv, hm, hk, hq, b'⟩ => by
      subst er
      obtain ⟨k, mk, rfl⟩ := List.mem_map.mp (p1 d md)
      obtain ⟨u, y6, g1, lu, c1, eb⟩ := body5_ok (s0 := s0) (r := h.length) (n := k) (a6 := x6) (a7 := a7) (a8 := a8) (a9 := a9) (a10 := a10) (a11 := a11) (a12 := a12) (a13 := a13) (a14 := a14) mk hu ht b'
      obtain ⟨ms', vs', ep, hv', hm', mu', mn'⟩ := putN_ok (n := k) (v := u) (cell c1) hv (by omega)
      refine ⟨_, _, _, rfl, eb _ ep, some (.int k), some y6, ms', vs', rfl, hv', by omega, fun q mq => ?_, fun u mu => ?_, upd _ c1⟩
      · rcases mn' q mq with rfl | mq
        · exact hn _ mk
        · exact hk q mq
      · rcases mu' u mu with rfl | mu
        · exact lu
        · exact hq u mu) ⟨a5, a6, [], [], rfl, rfl, by rw [l1, List.length_map]; simpa using hz, by simp, by simp, by simpa using b1⟩
  refine ⟨h.length, ms, vs, x5, x6, h2, ?_, cell b2, hv, by omega, hk, hq, BagE.weak (e := e ++ [.gone]) (by simpa using upd .gone b2)⟩
  have g4 : s4 [s0, some (.ref 0), some (.lst (ws.map .str)), some (.dct (ns.map .int) us), none, a5, a6, a7, a8, a9, a10, a11, a12, a13, a14] h = .nx [s0, some (.ref 0), some (.lst (ws.map .str)), some (.dct (ns.map .int) us), some (.ref h.length), a5, a6, a7, a8, a9, a10, a11, a12, a13, a14] (h ++ [.dct [] []]) := by
    unfold s4; simp
  have g5 : s5 [s0, some (.ref 0), some (.lst (ws.map .str)), some (.dct (ns.map .int) us), some (.ref h.length), a5, a6, a7, a8, a9, a10, a11, a12, a13, a14] (h ++ [.dct [] []]) = .nx [s0, some (.ref 0), some (.lst (ws.map .str)), some (.dct (ns.map .int) us), some (.ref h.length), x5, x6, a7, a8, a9, a10, a11, a12, a13, a14] h2 := by
    unfold s5
    simp [e1, e2]
  rw [mSeq_k, g4, seqK_nx, mSeq_k, g5, seqK_nx]
end
end Law
set_option Elab.async false
set_option linter.all false
set_option maxRecDepth 100000
set_option maxHeartbeats 4000000
namespace Law
open PySem PySem.Spec L2 RZ DD
theorem same_tup (l : List Int) (h : Hd) (hl : l.length ≤ 100) : m_law_same [.tup (l.map .int), .tup (l.map .int)] h = .ok (.bl true) h :=
  same_refl (n := 100) (by omega) 1 _ 4 h ((pd_tup _).mpr ⟨by simpa using hl, fun d md => by obtain ⟨i, _, rfl⟩ := List.mem_map.mp md; simp⟩) (by omega)
theorem same_bl (b : Bool) (h : Hd) : m_law_same [.bl b, .bl b] h = .ok (.bl true) h := same_refl (n := 100) (by omega) 0 _ 4 h (by simp) (by omega)
theorem inFlat_ints (x : Int) : ∀ l : List Int, inFlat (.int x) (l.map .int) = decide (x ∈ l)
  | [] => rfl
  | s :: l => by
    have ih := inFlat_ints x l
    unfold inFlat at ih ⊢
    rw [List.map_cons, List.any_cons, ih]
    rw [Bool.eq_iff_iff]
    simp only [eqFlat, Bool.or_eq_true, beq_iff_eq, decide_eq_true_eq, List.mem_cons]
    constructor
    · rintro (h | h)
      · exact .inl h.symm
      · exact .inr h
    · rintro (h | h)
      · exact .inl h.symm
      · exact .inr h
theorem ints_flat : ∀ l : List Int, (l.map D.int).all flatD = true
  | [] => rfl
  | s :: l => by simp [flatD]
theorem cInX_ints {h : Hd} (x : Int) (l : List Int) : cInX (.int x) (.tup (l.map .int)) h = .ok (decide (x ∈ l)) h := by
  rw [cInX_flat rfl (ints_flat l), inFlat_ints]
section
variable {ws : List Str} {t h : Hd} {s0 bd a5 a6 a7 a8 a9 a10 a11 a12 a13 a14 : Option D} {ms : List Int} {vs : List D}
theorem body7_ok (m : MenuL ws) (s : StS ms vs) (hz : ms.length ≤ 7) (b : BagE t h) : ∃ (x5 x11 x12 x13 x14 : Option D) (h' : Hd),
    body7 [s0, some (.ref 0), some (.lst (ws.map .str)), bd, some (.dct (ms.map .int) vs), a5, a6, a7, a8, a9, a10, a11, a12, a13, a14] h = .nx [s0, some (.ref 0), some (.lst (ws.map .str)), bd, some (.dct (ms.map .int) vs), x5, a6, a7, a8, a9, a10, x11, x12, x13, x14] h' ∧ BagE t h' := by
  obtain ⟨c, h1, e1, hc, b1⟩ := condS m 3 4 t h (by omega) b
  have e1' : m_law_cond [.ref 0, .lst (ws.map .str), .int 4] h = .ok c h1 := e1
  obtain ⟨d, h2, e2, hd, b2⟩ := pickE (xs := ms.map .int ++ [.int 0, .int 9]) b1 (by simp; omega)
  obtain ⟨one, rfl⟩ : ∃ one : Int, d = .int one := by
    rcases List.mem_append.mp hd with q | q
    · obtain ⟨i, _, rfl⟩ := List.mem_map.mp q
      exact ⟨i, rfl⟩
    · simp only [List.mem_cons, List.not_mem_nil, or_false] at q
      rcases q with rfl | rfl <;> exact ⟨_, rfl⟩
  obtain ⟨hn, h3, e3, _, b3⟩ := getE (sz := 3) b2 (by omega)
  obtain ⟨f, q1, q2, q3⟩ := whom_ok s (by omega) one (hd := .int hn) trivial hc
  obtain ⟨f0, r1, r2, r3⟩ := whom_ok s (by omega) 0 (hd := .non) trivial hc
  have lf : ∀ g : Int → Bool, ((srtI ms).filter g).length ≤ 100 := fun g => Nat.le_trans (List.length_filter_le _ _) (by rw [srtI_len]; omega)
  have k1 := same_tup _ h3 (lf f)
  have k2 := same_tup _ h3 (lf f0)
  have zs : (ms.map D.int ++ [D.int 0, .int 9]).length ≤ sizeLine := sz_small (by simp; omega)
  have zs' : ms.length + 2 ≤ sizeLine := sz_small (by omega)
  have g1 : s7_1 [s0, some (.ref 0), some (.lst (ws.map .str)), bd, some (.dct (ms.map .int) vs), a5, a6, a7, a8, a9, a10, a11, a12, a13, a14] h = .nx [s0, some (.ref 0), some (.lst (ws.map .str)), bd, some (.dct (ms.map .int) vs), a5, a6, a7, a8, a9, a10, some c, a12, a13, a14] h1 := by
    unfold s7_1; simp [e1']
  have g2 : s7_2 [s0, some (.ref 0), some (.lst (ws.map .str)), bd, some (.dct (ms.map .int) vs), a5, a6, a7, a8, a9, a10, some c, a12, a13, a14] h1 = .nx [s0, some (.ref 0), some (.lst (ws.map .str)), bd, some (.dct (ms.map .int) vs), a5, a6, a7, a8, a9, a10, some c, some (.int one), a13, a14] h2 := by
    unfold s7_2; simp [zs', e2]
  have g3 : s7_3 [s0, some (.ref 0), some (.lst (ws.map .str)), bd, some (.dct (ms.map .int) vs), a5, a6, a7, a8, a9, a10, some c, some (.int one), a13, a14] h2 = .nx [s0, some (.ref 0), some (.lst (ws.map .str)), bd, some (.dct (ms.map .int) vs), a5, a6, a7, a8, a9, a10, some c, some (.int one), some (.int hn), a14] h3 := by
    unfold s7_3; simp [e3]
  obtain ⟨du, edu⟩ : ∃ du : D, du = .tup (((srtI ms).filter f).map .int) := ⟨_, rfl⟩
  have g4 : s7_4 [s0, some (.ref 0), some (.lst (ws.map .str)), bd, some (.dct (ms.map .int) vs), a5, a6, a7, a8, a9, a10, some c, some (.int one), some (.int hn), a14] h3 = .nx [s0, some (.ref 0), some (.lst (ws.map .str)), bd, some (.dct (ms.map .int) vs), a5, a6, a7, a8, a9, a10, some c, some (.int one), some (.int hn), some du] h3 := by
    unfold s7_4; simp [q3, edu]
  have g5 : s7_5 [s0, some (.ref 0), some (.lst (ws.map .str)), bd, some (.dct (ms.map .int) vs), a5, a6, a7, a8, a9, a10, some c, some (.int one), some (.int hn), some du] h3 = .nx [s0, some (.ref 0), some (.lst (ws.map .str)), bd, some (.dct (ms.map .int) vs), a5, a6, a7, a8, a9, a10, some c, some (.int one), some (.int hn), some du] h3 := by
    unfold s7_5; simp [q2, edu, k1]
  obtain ⟨ρ', h4, e4, x5, rfl, rfl⟩ := forGo_inv (chk := fun _ => True) (g := DD.gSet 5) (b := (mIfS (mNot (mTru (mCalG 2 0 (fun ds _ => ds) m_law_same (aCons (mCalG 3 2 (fun ds es => pickL [0, 1, 2, 4, 3] (ds ++ es)) mtakes (aCons (mVar 11) (aCons (mVar 4) (aCons (mVar 5) aNil))) (aCons (mVar 13) (aCons (mVar 12) aNil))) (aCons (mB (mCmp cInD (mVar 5) (mVar 14))) aNil)) aNil))) (mRet (mC (.bl false))) mNil))
    (fun ρ h' => ∃ x5, ρ = [s0, some (.ref 0), some (.lst (ws.map .str)), bd, some (.dct (ms.map .int) vs), x5, a6, a7, a8, a9, a10, some c, some (.int one), some (.int hn), some du] ∧ h' = h3) (fun _ _ _ => trivial) (ms.map .int)
    [s0, some (.ref 0), some (.lst (ws.map .str)), bd, some (.dct (ms.map .int) vs), a5, a6, a7, a8, a9, a10, some c, some (.int one), some (.int hn), some du] h3
    (fun d md ρ h' ⟨x5, er, eh⟩ => by
      subst er; subst eh
      obtain ⟨k, mk, rfl⟩ := List.mem_map.mp md
      have ci : cInX (.int k) (.tup (((srtI ms).filter f).map .int)) h' = .ok (f k) h' := by
        rw [cInX_ints]
        congr 1
        rw [Bool.eq_iff_iff]
        simp [List.mem_filter, srtI_mem, mk]
      exact ⟨_, _, h', rfl, by simp [q1 k mk, edu, ci, same_bl], some (.int k), rfl, rfl⟩) ⟨a5, rfl, rfl⟩
  have g6 : s7_6 [s0, some (.ref 0), some (.lst (ws.map .str)), bd, some (.dct (ms.map .int) vs), a5, a6, a7, a8, a9, a10, some c, some (.int one), some (.int hn), some du] h4 = .nx [s0, some (.ref 0), some (.lst (ws.map .str)), bd, some (.dct (ms.map .int) vs), x5, a6, a7, a8, a9, a10, some c, some (.int one), some (.int hn), some du] h4 := by
    unfold s7_6
    simp only [mFor_k, mIterD_k, mVar_k]
    simp at e4 ⊢
    exact e4
  have g7 : s7_7 [s0, some (.ref 0), some (.lst (ws.map .str)), bd, some (.dct (ms.map .int) vs), x5, a6, a7, a8, a9, a10, some c, some (.int one), some (.int hn), some du] h4 = .nx [s0, some (.ref 0), some (.lst (ws.map .str)), bd, some (.dct (ms.map .int) vs), x5, a6, a7, a8, a9, a10, some c, some (.int one), some (.int hn), some du] h4 := by
    unfold s7_7; simp [r2, r3, k2]
  refine ⟨x5, some c, some (.int one), some (.int hn), some du, h4, ?_, b3⟩
  unfold body7
  rw [mSeq_k, g1, seqK_nx, mSeq_k, g2, seqK_nx, mSeq_k, g3, seqK_nx, mSeq_k, g4, seqK_nx, mSeq_k, g5, seqK_nx, mSeq_k, g6, seqK_nx, g7]
end
theorem main : ∀ ns : List Int, ns.length ≤ 63 → ∃ h', mlaw [.rol (ns.map .int)] [] = .ok (.bl true) h' := by
  intro ns hn
  have e1 : s1 [some (.rol (ns.map .int)), none, none, none, none, none, none, none, none, none, none, none, none, none, none] [] = .nx [some (.rol (ns.map .int)), some (.ref 0), none, none, none, none, none, none, none, none, none, none, none, none, none] [bagC ns 0 0 8989 0 0] := by
    have ec : cutL (ns.map D.int) none (some 63) = ns.map .int := by
      rw [show (some 63 : Option Int) = some ((63 : Nat) : Int) from rfl, cutL_to, List.take_of_length_le (by simpa using hn)]
    unfold s1 m_law_bag b_law_bag bagC
    simp [ec]
  have b0 : BagE [] [bagC ns 0 0 8989 0 0] := .of ⟨ns, 0, 0, 8989, 0, 0, rfl, hn, by omega, by omega, by omega⟩
  obtain ⟨ws, h1, f1, m, l3, _, b1⟩ := menu_ok b0
  have e2 : s2 [some (.rol (ns.map .int)), some (.ref 0), none, none, none, none, none, none, none, none, none, none, none, none, none] [bagC ns 0 0 8989 0 0] = .nx [some (.rol (ns.map .int)), some (.ref 0), some (.lst (ws.map .str)), none, none, none, none, none, none, none, none, none, none, none, none] h1 := by
    unfold s2; simp [f1]
  obtain ⟨ks, us, h2, f2, hu, hz, hk, ht, b2⟩ := board_ok b1 m
  have e3 : s3 [some (.rol (ns.map .int)), some (.ref 0), some (.lst (ws.map .str)), none, none, none, none, none, none, none, none, none, none, none, none] h1 = .nx [some (.rol (ns.map .int)), some (.ref 0), some (.lst (ws.map .str)), some (.dct (ks.map .int) us), none, none, none, none, none, none, none, none, none, none, none] h2 := by
    unfold s3; simp [f2]
  obtain ⟨r, ms, vs, x5, x6, h3, e5, hr, hv, hm, hms, hvs, b3⟩ := st5_ok (s0 := some (.rol (ns.map .int))) (a5 := none) (a6 := none) hk hu hz ht b2 none none none none none none none none
  have rp := repr_ok m.2.2 m.2.1 hms hv hm hvs
  have e6 : s6 [some (.rol (ns.map .int)), some (.ref 0), some (.lst (ws.map .str)), some (.dct (ks.map .int) us), some (.ref r), x5, x6, none, none, none, none, none, none, none, none] h3 = .nx [some (.rol (ns.map .int)), some (.ref 0), some (.lst (ws.map .str)), some (.dct (ks.map .int) us), some (.dct (ms.map .int) vs), x5, x6, none, none, some (.str (pyX (.dct (ms.map .int) vs)).shown), none, none, none, none, none] (h3.set r .gone) := by
    unfold s6
    rw [mFzV_k (d := .ref r) rfl]
    simp [frzD, hr, rp]
  have st : StS ms vs := ⟨hv, fun u mu => (hvs u mu).s⟩
  obtain ⟨ρ', h4, e7, x5', x10, x11, x12, x13, x14, rfl, b4⟩ := forGo_inv (chk := fun _ => True) (g := DD.gSet 10) (b := body7)
    (fun ρ h => ∃ x5 x10 x11 x12 x13 x14, ρ = [some (.rol (ns.map .int)), some (.ref 0), some (.lst (ws.map .str)), some (.dct (ks.map .int) us), some (.dct (ms.map .int) vs), x5, x6, none, none, some (.str (pyX (.dct (ms.map .int) vs)).shown), x10, x11, x12, x13, x14] ∧ BagE [] h) (fun _ _ _ => trivial) (rangeD 0 6)
    [some (.rol (ns.map .int)), some (.ref 0), some (.lst (ws.map .str)), some (.dct (ks.map .int) us), some (.dct (ms.map .int) vs), x5, x6, none, none, some (.str (pyX (.dct (ms.map .int) vs)).shown), none, none, none, none, none] (h3.set r .gone)
    (fun d _ ρ h ⟨x5, x10, x11, x12, x13, x14, er, b⟩ => by
      subst er
      obtain ⟨y5, y11, y12, y13, y14, h', e, b'⟩ := body7_ok (s0 := some (.rol (ns.map .int))) (bd := some (.dct (ks.map .int) us)) (a5 := x5) (a6 := x6) (a7 := none) (a8 := none) (a9 := some (.str (pyX (.dct (ms.map .int) vs)).shown)) (a10 := some d) (a11 := x11) (a12 := x12) (a13 := x13) (a14 := x14) m st hm b
      exact ⟨_, _, h', rfl, e, _, _, _, _, _, _, rfl, b'⟩) ⟨x5, none, none, none, none, none, rfl, b3⟩
  have r6 := range1_of (j := 6) (by omega)
  have e7' : s7 [some (.rol (ns.map .int)), some (.ref 0), some (.lst (ws.map .str)), some (.dct (ks.map .int) us), some (.dct (ms.map .int) vs), x5, x6, none, none, some (.str (pyX (.dct (ms.map .int) vs)).shown), none, none, none, none, none] (h3.set r .gone) = .nx [some (.rol (ns.map .int)), some (.ref 0), some (.lst (ws.map .str)), some (.dct (ks.map .int) us), some (.dct (ms.map .int) vs), x5', x6, none, none, some (.str (pyX (.dct (ms.map .int) vs)).shown), x10, x11, x12, x13, x14] h4 := by
    unfold s7
    simp only [mFor_k, mSrc_k, aCons_k, aNil_k, mC_k, consK_ok, consK2_ok, srcK_ok, r6, optR_some, forK_ok]
    rw [show (6 : Int).toNat = 6 from rfl, e7]
  obtain ⟨f, _, q2, _⟩ := whom_ok (ws := ws) (ns := []) (us := []) ⟨rfl, by simp⟩ (by simp) 0 (hd := .non) trivial (.any 3)
  have q2' := q2 h4
  rw [show (srtI []).filter f = [] by rw [show srtI [] = [] from List.length_eq_zero_iff.mp (srtI_len [])]; rfl] at q2'
  simp only [List.map_nil] at q2'
  have k0 := same_tup [] h4 (by simp)
  simp only [List.map_nil] at k0
  have e8 : s8 [some (.rol (ns.map .int)), some (.ref 0), some (.lst (ws.map .str)), some (.dct (ks.map .int) us), some (.dct (ms.map .int) vs), x5', x6, none, none, some (.str (pyX (.dct (ms.map .int) vs)).shown), x10, x11, x12, x13, x14] h4 = .rt (.bl true) h4 := by
    unfold s8
    simp [rp, q2', k0]
  have g : blaw [some (.rol (ns.map .int)), none, none, none, none, none, none, none, none, none, none, none, none, none, none] [] = .rt (.bl true) h4 := by
    rw [law_eq]
    have e5' : ∀ k : MS, mSeq s4 (mSeq s5 (mSeq s6 k)) [some (.rol (ns.map .int)), some (.ref 0), some (.lst (ws.map .str)), some (.dct (ks.map .int) us), none, none, none, none, none, none, none, none, none, none, none] h2 = seqK k (mSeq s4 (mSeq s5 s6) [some (.rol (ns.map .int)), some (.ref 0), some (.lst (ws.map .str)), some (.dct (ks.map .int) us), none, none, none, none, none, none, none, none, none, none, none] h2) := fun k => by
      simp only [mSeq_k]
      cases s4 [some (.rol (ns.map .int)), some (.ref 0), some (.lst (ws.map .str)), some (.dct (ks.map .int) us), none, none, none, none, none, none, none, none, none, none, none] h2 with
      | nx ρ h =>
        simp only [seqK_nx, mSeq_k]
        cases s5 ρ h <;> simp [seqK]
      | _ => simp [seqK]
    rw [mSeq_k, e1, seqK_nx, mSeq_k, e2, seqK_nx, mSeq_k, e3, seqK_nx, e5', e5, e6, seqK_nx, mSeq_k, e7', seqK_nx, e8]
  refine ⟨h4, ?_⟩
  unfold mlaw
  rw [runB_k]
  show runK (blaw [some (.rol (ns.map .int)), none, none, none, none, none, none, none, none, none, none, none, none, none, none] []) = _
  rw [g]
  rfl
end Law
set_option Elab.async false
set_option linter.all false
set_option maxRecDepth 100000
set_option maxHeartbeats 4000000
namespace Law
open PySem PySem.Spec L2 RZ DD
theorem all_mk {l : PySem.W.OpenLaw} {w : World} {K : PySem.W.Frag} {h : Heap} {mg : Str → Option Value} {fa : Addr} (X : K.In h) (G : h.Ns mainGlobals mg) (hfa : mg "law" = some (.ref fa))
    {fhand_seen ftakes kDtakes ftaken kDtaken f_law_bag f_law_get f_law_pick f_law_same f_law_shuffled f_law_word f_law_menu f_law_words f_law_cond f_law_change f_law_stand f_law_way f_law_act f_law_writ f_law_card f_law_look f_law_with f_law_from f_law_sees f_law_whom f_law_board flaw : Addr} {odhand_seen anhand_seen odtakes antakes odtaken antaken od_law_bag an_law_bag od_law_get an_law_get od_law_pick an_law_pick od_law_same an_law_same od_law_shuffled an_law_shuffled od_law_word an_law_word od_law_menu an_law_menu od_law_words an_law_words od_law_cond an_law_cond od_law_change an_law_change od_law_stand an_law_stand od_law_way an_law_way od_law_act an_law_act od_law_writ an_law_writ od_law_card an_law_card od_law_look an_law_look od_law_with an_law_with od_law_from an_law_from od_law_sees an_law_sees od_law_whom an_law_whom od_law_board an_law_board odlaw anlaw : (Option Addr)} {slhand_seen sltakes sltaken sl_law_bag sl_law_get sl_law_pick sl_law_same sl_law_shuffled sl_law_word sl_law_menu sl_law_words sl_law_cond sl_law_change sl_law_stand sl_law_way sl_law_act sl_law_writ sl_law_card sl_law_look sl_law_with sl_law_from sl_law_sees sl_law_whom sl_law_board sllaw : (Array (Option Value))} {ochand_seen dchand_seen pmhand_seen cdhand_seen cthand_seen kVhand_seen octakes dctakes pmtakes cdtakes cttakes octaken dctaken pmtaken cdtaken cttaken oc_law_bag dc_law_bag pm_law_bag cd_law_bag ct_law_bag kV_law_bag oc_law_get dc_law_get pm_law_get cd_law_get ct_law_get kV_law_get oc_law_pick dc_law_pick pm_law_pick cd_law_pick ct_law_pick kV_law_pick oc_law_same dc_law_same pm_law_same cd_law_same ct_law_same kV_law_same oc_law_shuffled dc_law_shuffled pm_law_shuffled cd_law_shuffled ct_law_shuffled kV_law_shuffled oc_law_word dc_law_word pm_law_word cd_law_word ct_law_word kV_law_word oc_law_menu dc_law_menu pm_law_menu cd_law_menu ct_law_menu kV_law_menu oc_law_words dc_law_words pm_law_words cd_law_words ct_law_words kV_law_words oc_law_cond dc_law_cond pm_law_cond cd_law_cond ct_law_cond kV_law_cond oc_law_change dc_law_change pm_law_change cd_law_change ct_law_change kV_law_change oc_law_stand dc_law_stand pm_law_stand cd_law_stand ct_law_stand kV_law_stand oc_law_way dc_law_way pm_law_way cd_law_way ct_law_way kV_law_way oc_law_act dc_law_act pm_law_act cd_law_act ct_law_act kV_law_act oc_law_writ dc_law_writ pm_law_writ cd_law_writ ct_law_writ kV_law_writ oc_law_card dc_law_card pm_law_card cd_law_card ct_law_card kV_law_card oc_law_look dc_law_look pm_law_look cd_law_look ct_law_look kV_law_look oc_law_with dc_law_with pm_law_with cd_law_with ct_law_with kV_law_with oc_law_from dc_law_from pm_law_from cd_law_from ct_law_from kV_law_from oc_law_sees dc_law_sees pm_law_sees cd_law_sees ct_law_sees kV_law_sees oc_law_whom dc_law_whom pm_law_whom cd_law_whom ct_law_whom kV_law_whom oc_law_board dc_law_board pm_law_board cd_law_board ct_law_board kV_law_board oclaw dclaw pmlaw cdlaw ctlaw kVlaw : Value} {t_kw0takes t_kw0taken : Tok}
    (ahand_seen : PySem.W.nsIn K mainGlobals "hand_seen" = some (some (.ref fhand_seen)))
    (lhand_seen : K.lookup fhand_seen = some ⟨ochand_seen, odhand_seen, .func (PySem.W.fnOf "hand_seen" "hand_seen" (defArgs sthand_seen) (defBody sthand_seen) (defScope sthand_seen) .none kVhand_seen dchand_seen pmhand_seen anhand_seen cdhand_seen cthand_seen), slhand_seen⟩)
    (chand_seen : PySem.W.codeIn K cdhand_seen "hand_seen" = true)
    (khand_seen : PySem.W.keepIn K (.ref fhand_seen) = true)
    (atakes : PySem.W.nsIn K mainGlobals "takes" = some (some (.ref ftakes)))
    (ltakes : K.lookup ftakes = some ⟨octakes, odtakes, .func (PySem.W.fnOf "takes" "takes" (defArgs sttakes) (defBody sttakes) (defScope sttakes) .none (.ref kDtakes) dctakes pmtakes antakes cdtakes cttakes), sltakes⟩)
    (ctakes : PySem.W.codeIn K cdtakes "takes" = true)
    (ktakes : PySem.W.keepIn K (.ref ftakes) = true)
    (d0takes : PySem.W.nsIn K kDtakes "own" = some (some (.int (0) t_kw0takes)))
    (d1takes : PySem.W.nsIn K kDtakes "hand" = some (some (.none)))
    (ataken : PySem.W.nsIn K mainGlobals "taken" = some (some (.ref ftaken)))
    (ltaken : K.lookup ftaken = some ⟨octaken, odtaken, .func (PySem.W.fnOf "taken" "taken" (defArgs sttaken) (defBody sttaken) (defScope sttaken) .none (.ref kDtaken) dctaken pmtaken antaken cdtaken cttaken), sltaken⟩)
    (ctaken : PySem.W.codeIn K cdtaken "taken" = true)
    (ktaken : PySem.W.keepIn K (.ref ftaken) = true)
    (d0taken : PySem.W.nsIn K kDtaken "own" = some (some (.int (0) t_kw0taken)))
    (d1taken : PySem.W.nsIn K kDtaken "hand" = some (some (.none)))
    (a_law_bag : PySem.W.nsIn K mainGlobals "_law_bag" = some (some (.ref f_law_bag)))
    (l_law_bag : K.lookup f_law_bag = some ⟨oc_law_bag, od_law_bag, .func (PySem.W.fnOf "_law_bag" "_law_bag" (defArgs st_law_bag) (defBody st_law_bag) (defScope st_law_bag) .none kV_law_bag dc_law_bag pm_law_bag an_law_bag cd_law_bag ct_law_bag), sl_law_bag⟩)
    (c_law_bag : PySem.W.codeIn K cd_law_bag "_law_bag" = true)
    (k_law_bag : PySem.W.keepIn K (.ref f_law_bag) = true)
    (a_law_get : PySem.W.nsIn K mainGlobals "_law_get" = some (some (.ref f_law_get)))
    (l_law_get : K.lookup f_law_get = some ⟨oc_law_get, od_law_get, .func (PySem.W.fnOf "_law_get" "_law_get" (defArgs st_law_get) (defBody st_law_get) (defScope st_law_get) .none kV_law_get dc_law_get pm_law_get an_law_get cd_law_get ct_law_get), sl_law_get⟩)
    (c_law_get : PySem.W.codeIn K cd_law_get "_law_get" = true)
    (k_law_get : PySem.W.keepIn K (.ref f_law_get) = true)
    (a_law_pick : PySem.W.nsIn K mainGlobals "_law_pick" = some (some (.ref f_law_pick)))
    (l_law_pick : K.lookup f_law_pick = some ⟨oc_law_pick, od_law_pick, .func (PySem.W.fnOf "_law_pick" "_law_pick" (defArgs st_law_pick) (defBody st_law_pick) (defScope st_law_pick) .none kV_law_pick dc_law_pick pm_law_pick an_law_pick cd_law_pick ct_law_pick), sl_law_pick⟩)
    (c_law_pick : PySem.W.codeIn K cd_law_pick "_law_pick" = true)
    (k_law_pick : PySem.W.keepIn K (.ref f_law_pick) = true)
    (a_law_same : PySem.W.nsIn K mainGlobals "_law_same" = some (some (.ref f_law_same)))
    (l_law_same : K.lookup f_law_same = some ⟨oc_law_same, od_law_same, .func (PySem.W.fnOf "_law_same" "_law_same" (defArgs st_law_same) (defBody st_law_same) (defScope st_law_same) .none kV_law_same dc_law_same pm_law_same an_law_same cd_law_same ct_law_same), sl_law_same⟩)
    (c_law_same : PySem.W.codeIn K cd_law_same "_law_same" = true)
    (k_law_same : PySem.W.keepIn K (.ref f_law_same) = true)
    (a_law_shuffled : PySem.W.nsIn K mainGlobals "_law_shuffled" = some (some (.ref f_law_shuffled)))
    (l_law_shuffled : K.lookup f_law_shuffled = some ⟨oc_law_shuffled, od_law_shuffled, .func (PySem.W.fnOf "_law_shuffled" "_law_shuffled" (defArgs st_law_shuffled) (defBody st_law_shuffled) (defScope st_law_shuffled) .none kV_law_shuffled dc_law_shuffled pm_law_shuffled an_law_shuffled cd_law_shuffled ct_law_shuffled), sl_law_shuffled⟩)
    (c_law_shuffled : PySem.W.codeIn K cd_law_shuffled "_law_shuffled" = true)
    (k_law_shuffled : PySem.W.keepIn K (.ref f_law_shuffled) = true)
    (a_law_word : PySem.W.nsIn K mainGlobals "_law_word" = some (some (.ref f_law_word)))
    (l_law_word : K.lookup f_law_word = some ⟨oc_law_word, od_law_word, .func (PySem.W.fnOf "_law_word" "_law_word" (defArgs st_law_word) (defBody st_law_word) (defScope st_law_word) .none kV_law_word dc_law_word pm_law_word an_law_word cd_law_word ct_law_word), sl_law_word⟩)
    (c_law_word : PySem.W.codeIn K cd_law_word "_law_word" = true)
    (k_law_word : PySem.W.keepIn K (.ref f_law_word) = true)
    (a_law_menu : PySem.W.nsIn K mainGlobals "_law_menu" = some (some (.ref f_law_menu)))
    (l_law_menu : K.lookup f_law_menu = some ⟨oc_law_menu, od_law_menu, .func (PySem.W.fnOf "_law_menu" "_law_menu" (defArgs st_law_menu) (defBody st_law_menu) (defScope st_law_menu) .none kV_law_menu dc_law_menu pm_law_menu an_law_menu cd_law_menu ct_law_menu), sl_law_menu⟩)
    (c_law_menu : PySem.W.codeIn K cd_law_menu "_law_menu" = true)
    (k_law_menu : PySem.W.keepIn K (.ref f_law_menu) = true)
    (a_law_words : PySem.W.nsIn K mainGlobals "_law_words" = some (some (.ref f_law_words)))
    (l_law_words : K.lookup f_law_words = some ⟨oc_law_words, od_law_words, .func (PySem.W.fnOf "_law_words" "_law_words" (defArgs st_law_words) (defBody st_law_words) (defScope st_law_words) .none kV_law_words dc_law_words pm_law_words an_law_words cd_law_words ct_law_words), sl_law_words⟩)
    (c_law_words : PySem.W.codeIn K cd_law_words "_law_words" = true)
    (k_law_words : PySem.W.keepIn K (.ref f_law_words) = true)
    (a_law_cond : PySem.W.nsIn K mainGlobals "_law_cond" = some (some (.ref f_law_cond)))
    (l_law_cond : K.lookup f_law_cond = some ⟨oc_law_cond, od_law_cond, .func (PySem.W.fnOf "_law_cond" "_law_cond" (defArgs st_law_cond) (defBody st_law_cond) (defScope st_law_cond) .none kV_law_cond dc_law_cond pm_law_cond an_law_cond cd_law_cond ct_law_cond), sl_law_cond⟩)
    (c_law_cond : PySem.W.codeIn K cd_law_cond "_law_cond" = true)
    (k_law_cond : PySem.W.keepIn K (.ref f_law_cond) = true)
    (a_law_change : PySem.W.nsIn K mainGlobals "_law_change" = some (some (.ref f_law_change)))
    (l_law_change : K.lookup f_law_change = some ⟨oc_law_change, od_law_change, .func (PySem.W.fnOf "_law_change" "_law_change" (defArgs st_law_change) (defBody st_law_change) (defScope st_law_change) .none kV_law_change dc_law_change pm_law_change an_law_change cd_law_change ct_law_change), sl_law_change⟩)
    (c_law_change : PySem.W.codeIn K cd_law_change "_law_change" = true)
    (k_law_change : PySem.W.keepIn K (.ref f_law_change) = true)
    (a_law_stand : PySem.W.nsIn K mainGlobals "_law_stand" = some (some (.ref f_law_stand)))
    (l_law_stand : K.lookup f_law_stand = some ⟨oc_law_stand, od_law_stand, .func (PySem.W.fnOf "_law_stand" "_law_stand" (defArgs st_law_stand) (defBody st_law_stand) (defScope st_law_stand) .none kV_law_stand dc_law_stand pm_law_stand an_law_stand cd_law_stand ct_law_stand), sl_law_stand⟩)
    (c_law_stand : PySem.W.codeIn K cd_law_stand "_law_stand" = true)
    (k_law_stand : PySem.W.keepIn K (.ref f_law_stand) = true)
    (a_law_way : PySem.W.nsIn K mainGlobals "_law_way" = some (some (.ref f_law_way)))
    (l_law_way : K.lookup f_law_way = some ⟨oc_law_way, od_law_way, .func (PySem.W.fnOf "_law_way" "_law_way" (defArgs st_law_way) (defBody st_law_way) (defScope st_law_way) .none kV_law_way dc_law_way pm_law_way an_law_way cd_law_way ct_law_way), sl_law_way⟩)
    (c_law_way : PySem.W.codeIn K cd_law_way "_law_way" = true)
    (k_law_way : PySem.W.keepIn K (.ref f_law_way) = true)
    (a_law_act : PySem.W.nsIn K mainGlobals "_law_act" = some (some (.ref f_law_act)))
    (l_law_act : K.lookup f_law_act = some ⟨oc_law_act, od_law_act, .func (PySem.W.fnOf "_law_act" "_law_act" (defArgs st_law_act) (defBody st_law_act) (defScope st_law_act) .none kV_law_act dc_law_act pm_law_act an_law_act cd_law_act ct_law_act), sl_law_act⟩)
    (c_law_act : PySem.W.codeIn K cd_law_act "_law_act" = true)
    (k_law_act : PySem.W.keepIn K (.ref f_law_act) = true)
    (a_law_writ : PySem.W.nsIn K mainGlobals "_law_writ" = some (some (.ref f_law_writ)))
    (l_law_writ : K.lookup f_law_writ = some ⟨oc_law_writ, od_law_writ, .func (PySem.W.fnOf "_law_writ" "_law_writ" (defArgs st_law_writ) (defBody st_law_writ) (defScope st_law_writ) .none kV_law_writ dc_law_writ pm_law_writ an_law_writ cd_law_writ ct_law_writ), sl_law_writ⟩)
    (c_law_writ : PySem.W.codeIn K cd_law_writ "_law_writ" = true)
    (k_law_writ : PySem.W.keepIn K (.ref f_law_writ) = true)
    (a_law_card : PySem.W.nsIn K mainGlobals "_law_card" = some (some (.ref f_law_card)))
    (l_law_card : K.lookup f_law_card = some ⟨oc_law_card, od_law_card, .func (PySem.W.fnOf "_law_card" "_law_card" (defArgs st_law_card) (defBody st_law_card) (defScope st_law_card) .none kV_law_card dc_law_card pm_law_card an_law_card cd_law_card ct_law_card), sl_law_card⟩)
    (c_law_card : PySem.W.codeIn K cd_law_card "_law_card" = true)
    (k_law_card : PySem.W.keepIn K (.ref f_law_card) = true)
    (a_law_look : PySem.W.nsIn K mainGlobals "_law_look" = some (some (.ref f_law_look)))
    (l_law_look : K.lookup f_law_look = some ⟨oc_law_look, od_law_look, .func (PySem.W.fnOf "_law_look" "_law_look" (defArgs st_law_look) (defBody st_law_look) (defScope st_law_look) .none kV_law_look dc_law_look pm_law_look an_law_look cd_law_look ct_law_look), sl_law_look⟩)
    (c_law_look : PySem.W.codeIn K cd_law_look "_law_look" = true)
    (k_law_look : PySem.W.keepIn K (.ref f_law_look) = true)
    (a_law_with : PySem.W.nsIn K mainGlobals "_law_with" = some (some (.ref f_law_with)))
    (l_law_with : K.lookup f_law_with = some ⟨oc_law_with, od_law_with, .func (PySem.W.fnOf "_law_with" "_law_with" (defArgs st_law_with) (defBody st_law_with) (defScope st_law_with) .none kV_law_with dc_law_with pm_law_with an_law_with cd_law_with ct_law_with), sl_law_with⟩)
    (c_law_with : PySem.W.codeIn K cd_law_with "_law_with" = true)
    (k_law_with : PySem.W.keepIn K (.ref f_law_with) = true)
    (a_law_from : PySem.W.nsIn K mainGlobals "_law_from" = some (some (.ref f_law_from)))
    (l_law_from : K.lookup f_law_from = some ⟨oc_law_from, od_law_from, .func (PySem.W.fnOf "_law_from" "_law_from" (defArgs st_law_from) (defBody st_law_from) (defScope st_law_from) .none kV_law_from dc_law_from pm_law_from an_law_from cd_law_from ct_law_from), sl_law_from⟩)
    (c_law_from : PySem.W.codeIn K cd_law_from "_law_from" = true)
    (k_law_from : PySem.W.keepIn K (.ref f_law_from) = true)
    (a_law_sees : PySem.W.nsIn K mainGlobals "_law_sees" = some (some (.ref f_law_sees)))
    (l_law_sees : K.lookup f_law_sees = some ⟨oc_law_sees, od_law_sees, .func (PySem.W.fnOf "_law_sees" "_law_sees" (defArgs st_law_sees) (defBody st_law_sees) (defScope st_law_sees) .none kV_law_sees dc_law_sees pm_law_sees an_law_sees cd_law_sees ct_law_sees), sl_law_sees⟩)
    (c_law_sees : PySem.W.codeIn K cd_law_sees "_law_sees" = true)
    (k_law_sees : PySem.W.keepIn K (.ref f_law_sees) = true)
    (a_law_whom : PySem.W.nsIn K mainGlobals "_law_whom" = some (some (.ref f_law_whom)))
    (l_law_whom : K.lookup f_law_whom = some ⟨oc_law_whom, od_law_whom, .func (PySem.W.fnOf "_law_whom" "_law_whom" (defArgs st_law_whom) (defBody st_law_whom) (defScope st_law_whom) .none kV_law_whom dc_law_whom pm_law_whom an_law_whom cd_law_whom ct_law_whom), sl_law_whom⟩)
    (c_law_whom : PySem.W.codeIn K cd_law_whom "_law_whom" = true)
    (k_law_whom : PySem.W.keepIn K (.ref f_law_whom) = true)
    (a_law_board : PySem.W.nsIn K mainGlobals "_law_board" = some (some (.ref f_law_board)))
    (l_law_board : K.lookup f_law_board = some ⟨oc_law_board, od_law_board, .func (PySem.W.fnOf "_law_board" "_law_board" (defArgs st_law_board) (defBody st_law_board) (defScope st_law_board) .none kV_law_board dc_law_board pm_law_board an_law_board cd_law_board ct_law_board), sl_law_board⟩)
    (c_law_board : PySem.W.codeIn K cd_law_board "_law_board" = true)
    (k_law_board : PySem.W.keepIn K (.ref f_law_board) = true)
    (alaw : PySem.W.nsIn K mainGlobals "law" = some (some (.ref flaw)))
    (llaw : K.lookup flaw = some ⟨oclaw, odlaw, .func (PySem.W.fnOf "law" "law" (defArgs stlaw) (defBody stlaw) (defScope stlaw) .none kVlaw dclaw pmlaw anlaw cdlaw ctlaw), sllaw⟩)
    (claw : PySem.W.codeIn K cdlaw "law" = true)
    (klaw : PySem.W.keepIn K (.ref flaw) = true)
    (b_all : PySem.W.nsIn K mainGlobals "all" = some none)
    (b_any : PySem.W.nsIn K mainGlobals "any" = some none)
    (b_bool : PySem.W.nsIn K mainGlobals "bool" = some none)
    (b_dict : PySem.W.nsIn K mainGlobals "dict" = some none)
    (b_enumerate : PySem.W.nsIn K mainGlobals "enumerate" = some none)
    (b_int : PySem.W.nsIn K mainGlobals "int" = some none)
    (b_isinstance : PySem.W.nsIn K mainGlobals "isinstance" = some none)
    (b_len : PySem.W.nsIn K mainGlobals "len" = some none)
    (b_list : PySem.W.nsIn K mainGlobals "list" = some none)
    (b_range : PySem.W.nsIn K mainGlobals "range" = some none)
    (b_repr : PySem.W.nsIn K mainGlobals "repr" = some none)
    (b_set : PySem.W.nsIn K mainGlobals "set" = some none)
    (b_sorted : PySem.W.nsIn K mainGlobals "sorted" = some none)
    (b_str : PySem.W.nsIn K mainGlobals "str" = some none)
    (b_tuple : PySem.W.nsIn K mainGlobals "tuple" = some none)
    (b_zip : PySem.W.nsIn K mainGlobals "zip" = some none)
    (main : ∀ ns : List Int, ns.length ≤ 63 → ∃ h', mlaw [.rol (ns.map .int)] [] = .ok (.bl true) h') :
    ∃ fd : FuncData, (∀ (s : Shared) (v : Value), BindsTo s fd ⟨[v], []⟩ [("_law_script", v)]) ∧ ∀ base : Heap, K.In base → base.Ns mainGlobals mg → FnG l.prog w K mg base (L2.CX l.prog w) 19 fa fd ["_law_script"] (spL K) := by
  have e := hfa.symm.trans (PySem.W.mg_of X G alaw)
  cases e
  have T : Txt K w mg := ⟨PySem.W.mg_none_of X G b_all, PySem.W.mg_none_of X G b_any, PySem.W.mg_none_of X G b_bool, PySem.W.mg_none_of X G b_dict, PySem.W.mg_none_of X G b_enumerate, PySem.W.mg_none_of X G b_int, PySem.W.mg_none_of X G b_isinstance, PySem.W.mg_none_of X G b_len, PySem.W.mg_none_of X G b_list, PySem.W.mg_none_of X G b_range, PySem.W.mg_none_of X G b_repr, PySem.W.mg_none_of X G b_set, PySem.W.mg_none_of X G b_sorted, PySem.W.mg_none_of X G b_str, PySem.W.mg_none_of X G b_tuple, PySem.W.mg_none_of X G b_zip⟩
  have Dhand_seen : DefX K mg "hand_seen" "hand_seen" sthand_seen [] [] _ _ := defX0 lhand_seen chand_seen khand_seen
  have Dtakes : DefX K mg "takes" "takes" sttakes [] [("own", .int (0)), ("hand", .non)] _ _ := defXk ltakes ctakes ktakes ⟨⟨_, d0takes, kr_int⟩, ⟨_, d1takes, kr_non⟩, trivial⟩
  have Dtaken : DefX K mg "taken" "taken" sttaken [] [("own", .int (0)), ("hand", .non)] _ _ := defXk ltaken ctaken ktaken ⟨⟨_, d0taken, kr_int⟩, ⟨_, d1taken, kr_non⟩, trivial⟩
  have D_law_bag : DefX K mg "_law_bag" "_law_bag" st_law_bag [] [] _ _ := defX0 l_law_bag c_law_bag k_law_bag
  have D_law_get : DefX K mg "_law_get" "_law_get" st_law_get [] [] _ _ := defX0 l_law_get c_law_get k_law_get
  have D_law_pick : DefX K mg "_law_pick" "_law_pick" st_law_pick [] [] _ _ := defX0 l_law_pick c_law_pick k_law_pick
  have D_law_same : DefX K mg "_law_same" "_law_same" st_law_same [] [] _ _ := defX0 l_law_same c_law_same k_law_same
  have D_law_shuffled : DefX K mg "_law_shuffled" "_law_shuffled" st_law_shuffled [] [] _ _ := defX0 l_law_shuffled c_law_shuffled k_law_shuffled
  have D_law_word : DefX K mg "_law_word" "_law_word" st_law_word [] [] _ _ := defX0 l_law_word c_law_word k_law_word
  have D_law_menu : DefX K mg "_law_menu" "_law_menu" st_law_menu [] [] _ _ := defX0 l_law_menu c_law_menu k_law_menu
  have D_law_words : DefX K mg "_law_words" "_law_words" st_law_words [] [] _ _ := defX0 l_law_words c_law_words k_law_words
  have D_law_cond : DefX K mg "_law_cond" "_law_cond" st_law_cond [] [] _ _ := defX0 l_law_cond c_law_cond k_law_cond
  have D_law_change : DefX K mg "_law_change" "_law_change" st_law_change [] [] _ _ := defX0 l_law_change c_law_change k_law_change
  have D_law_stand : DefX K mg "_law_stand" "_law_stand" st_law_stand [] [] _ _ := defX0 l_law_stand c_law_stand k_law_stand
  have D_law_way : DefX K mg "_law_way" "_law_way" st_law_way [] [] _ _ := defX0 l_law_way c_law_way k_law_way
  have D_law_act : DefX K mg "_law_act" "_law_act" st_law_act [] [] _ _ := defX0 l_law_act c_law_act k_law_act
  have D_law_writ : DefX K mg "_law_writ" "_law_writ" st_law_writ [] [] _ _ := defX0 l_law_writ c_law_writ k_law_writ
  have D_law_card : DefX K mg "_law_card" "_law_card" st_law_card [] [] _ _ := defX0 l_law_card c_law_card k_law_card
  have D_law_look : DefX K mg "_law_look" "_law_look" st_law_look [] [] _ _ := defX0 l_law_look c_law_look k_law_look
  have D_law_with : DefX K mg "_law_with" "_law_with" st_law_with [] [] _ _ := defX0 l_law_with c_law_with k_law_with
  have D_law_from : DefX K mg "_law_from" "_law_from" st_law_from [] [] _ _ := defX0 l_law_from c_law_from k_law_from
  have D_law_sees : DefX K mg "_law_sees" "_law_sees" st_law_sees [] [] _ _ := defX0 l_law_sees c_law_sees k_law_sees
  have D_law_whom : DefX K mg "_law_whom" "_law_whom" st_law_whom [] [] _ _ := defX0 l_law_whom c_law_whom k_law_whom
  have D_law_board : DefX K mg "_law_board" "_law_board" st_law_board [] [] _ _ := defX0 l_law_board c_law_board k_law_board
  have Dlaw : DefX K mg "law" "law" stlaw [] [] _ _ := defX0 llaw claw klaw
  have Bhand_seen_3 : ShB K mg "hand_seen" _ _ ["looks", "own", "hand"] 3 [] (fun ds _ => ds) := ⟨PySem.W.mg_of X G ahand_seen, khand_seen, bn_pos Dhand_seen rfl fun _ _ _ _ _ _ us hl => match us, hl with | [_, _, _], _ => rfl⟩
  have Btakes_3_hand_own : ShB K mg "takes" _ _ ["condition", "looks", "number", "own", "hand"] 3 ["hand", "own"] (fun ds es => pickL [0, 1, 2, 4, 3] (ds ++ es)) := ⟨PySem.W.mg_of X G atakes, ktakes, bn_all Dtakes [0, 1, 2, 4, 3] (by decide) rfl fun _ _ _ _ _ _ us ws h1 h2 => match us, ws, h1, h2 with | [_, _, _], [_, _], _, _ => rfl⟩
  have Btakes_3_own_hand : ShB K mg "takes" _ _ ["condition", "looks", "number", "own", "hand"] 3 ["own", "hand"] (fun ds es => pickL [0, 1, 2, 3, 4] (ds ++ es)) := ⟨PySem.W.mg_of X G atakes, ktakes, bn_all Dtakes [0, 1, 2, 3, 4] (by decide) rfl fun _ _ _ _ _ _ us ws h1 h2 => match us, ws, h1, h2 with | [_, _, _], [_, _], _, _ => rfl⟩
  have Btaken_2 : ShB K mg "taken" _ _ ["condition", "looks", "own", "hand"] 2 [] (fun ds es => pickL [0, 1, 2, 3] (ds ++ ([.int (0), .non] ++ es))) := ⟨PySem.W.mg_of X G ataken, ktaken, bn_kw Dtaken (by simp) [0, 1] (by decide) [0, 1, 2, 3] (by decide) rfl fun _ _ _ _ _ _ us mv ws h1 h2 h3 => match us, mv, ws, h1, h2, h3 with | [_, _], [_, _], [], _, _, _ => ⟨_, _, _, _, _, _, rfl, rfl, _, _, _, _, _, _, rfl, rfl,  rfl⟩⟩
  have Btaken_2_own_hand : ShB K mg "taken" _ _ ["condition", "looks", "own", "hand"] 2 ["own", "hand"] (fun ds es => pickL [0, 1, 2, 3] (ds ++ es)) := ⟨PySem.W.mg_of X G ataken, ktaken, bn_all Dtaken [0, 1, 2, 3] (by decide) rfl fun _ _ _ _ _ _ us ws h1 h2 => match us, ws, h1, h2 with | [_, _], [_, _], _, _ => rfl⟩
  have B_law_bag_1 : ShB K mg "_law_bag" _ _ ["_law_script"] 1 [] (fun ds _ => ds) := ⟨PySem.W.mg_of X G a_law_bag, k_law_bag, bn_pos D_law_bag rfl fun _ _ _ _ _ _ us hl => match us, hl with | [_], _ => rfl⟩
  have B_law_get_2 : ShB K mg "_law_get" _ _ ["_law_bag_here", "_law_size"] 2 [] (fun ds _ => ds) := ⟨PySem.W.mg_of X G a_law_get, k_law_get, bn_pos D_law_get rfl fun _ _ _ _ _ _ us hl => match us, hl with | [_, _], _ => rfl⟩
  have B_law_pick_2 : ShB K mg "_law_pick" _ _ ["_law_bag_here", "_law_some"] 2 [] (fun ds _ => ds) := ⟨PySem.W.mg_of X G a_law_pick, k_law_pick, bn_pos D_law_pick rfl fun _ _ _ _ _ _ us hl => match us, hl with | [_, _], _ => rfl⟩
  have B_law_same_2 : ShB K mg "_law_same" _ _ ["_law_found", "_law_due"] 2 [] (fun ds _ => ds) := ⟨PySem.W.mg_of X G a_law_same, k_law_same, bn_pos D_law_same rfl fun _ _ _ _ _ _ us hl => match us, hl with | [_, _], _ => rfl⟩
  have B_law_shuffled_2 : ShB K mg "_law_shuffled" _ _ ["_law_bag_here", "_law_some"] 2 [] (fun ds _ => ds) := ⟨PySem.W.mg_of X G a_law_shuffled, k_law_shuffled, bn_pos D_law_shuffled rfl fun _ _ _ _ _ _ us hl => match us, hl with | [_, _], _ => rfl⟩
  have B_law_word_1 : ShB K mg "_law_word" _ _ ["_law_bag_here"] 1 [] (fun ds _ => ds) := ⟨PySem.W.mg_of X G a_law_word, k_law_word, bn_pos D_law_word rfl fun _ _ _ _ _ _ us hl => match us, hl with | [_], _ => rfl⟩
  have B_law_menu_1 : ShB K mg "_law_menu" _ _ ["_law_bag_here"] 1 [] (fun ds _ => ds) := ⟨PySem.W.mg_of X G a_law_menu, k_law_menu, bn_pos D_law_menu rfl fun _ _ _ _ _ _ us hl => match us, hl with | [_], _ => rfl⟩
  have B_law_words_2 : ShB K mg "_law_words" _ _ ["_law_bag_here", "_law_menu_here"] 2 [] (fun ds _ => ds) := ⟨PySem.W.mg_of X G a_law_words, k_law_words, bn_pos D_law_words rfl fun _ _ _ _ _ _ us hl => match us, hl with | [_, _], _ => rfl⟩
  have B_law_cond_3 : ShB K mg "_law_cond" _ _ ["_law_bag_here", "_law_menu_here", "_law_levels"] 3 [] (fun ds _ => ds) := ⟨PySem.W.mg_of X G a_law_cond, k_law_cond, bn_pos D_law_cond rfl fun _ _ _ _ _ _ us hl => match us, hl with | [_, _, _], _ => rfl⟩
  have B_law_change_3 : ShB K mg "_law_change" _ _ ["_law_bag_here", "_law_menu_here", "_law_layer"] 3 [] (fun ds _ => ds) := ⟨PySem.W.mg_of X G a_law_change, k_law_change, bn_pos D_law_change rfl fun _ _ _ _ _ _ us hl => match us, hl with | [_, _, _], _ => rfl⟩
  have B_law_stand_3 : ShB K mg "_law_stand" _ _ ["_law_bag_here", "_law_menu_here", "_law_nested"] 3 [] (fun ds _ => ds) := ⟨PySem.W.mg_of X G a_law_stand, k_law_stand, bn_pos D_law_stand rfl fun _ _ _ _ _ _ us hl => match us, hl with | [_, _, _], _ => rfl⟩
  have B_law_way_2 : ShB K mg "_law_way" _ _ ["_law_bag_here", "_law_word_here"] 2 [] (fun ds _ => ds) := ⟨PySem.W.mg_of X G a_law_way, k_law_way, bn_pos D_law_way rfl fun _ _ _ _ _ _ us hl => match us, hl with | [_, _], _ => rfl⟩
  have B_law_act_2 : ShB K mg "_law_act" _ _ ["_law_bag_here", "_law_menu_here"] 2 [] (fun ds _ => ds) := ⟨PySem.W.mg_of X G a_law_act, k_law_act, bn_pos D_law_act rfl fun _ _ _ _ _ _ us hl => match us, hl with | [_, _], _ => rfl⟩
  have B_law_writ_3 : ShB K mg "_law_writ" _ _ ["_law_bag_here", "_law_menu_here", "_law_nested"] 3 [] (fun ds _ => ds) := ⟨PySem.W.mg_of X G a_law_writ, k_law_writ, bn_pos D_law_writ rfl fun _ _ _ _ _ _ us hl => match us, hl with | [_, _, _], _ => rfl⟩
  have B_law_card_2 : ShB K mg "_law_card" _ _ ["_law_bag_here", "_law_menu_here"] 2 [] (fun ds _ => ds) := ⟨PySem.W.mg_of X G a_law_card, k_law_card, bn_pos D_law_card rfl fun _ _ _ _ _ _ us hl => match us, hl with | [_, _], _ => rfl⟩
  have B_law_look_4 : ShB K mg "_law_look" _ _ ["_law_number", "_law_hand_now", "_law_moment", "_law_card_here"] 4 [] (fun ds _ => ds) := ⟨PySem.W.mg_of X G a_law_look, k_law_look, bn_pos D_law_look rfl fun _ _ _ _ _ _ us hl => match us, hl with | [_, _, _, _], _ => rfl⟩
  have B_law_with_3 : ShB K mg "_law_with" _ _ ["_law_look_here", "_law_name", "_law_thing_now"] 3 [] (fun ds _ => ds) := ⟨PySem.W.mg_of X G a_law_with, k_law_with, bn_pos D_law_with rfl fun _ _ _ _ _ _ us hl => match us, hl with | [_, _, _], _ => rfl⟩
  have B_law_from_3 : ShB K mg "_law_from" _ _ ["_law_state", "_law_one", "_law_hand_now"] 3 [] (fun ds _ => ds) := ⟨PySem.W.mg_of X G a_law_from, k_law_from, bn_pos D_law_from rfl fun _ _ _ _ _ _ us hl => match us, hl with | [_, _, _], _ => rfl⟩
  have B_law_sees_5 : ShB K mg "_law_sees" _ _ ["_law_cond_here", "_law_state", "_law_number", "_law_one", "_law_hand_now"] 5 [] (fun ds _ => ds) := ⟨PySem.W.mg_of X G a_law_sees, k_law_sees, bn_pos D_law_sees rfl fun _ _ _ _ _ _ us hl => match us, hl with | [_, _, _, _, _], _ => rfl⟩
  have B_law_whom_4 : ShB K mg "_law_whom" _ _ ["_law_cond_here", "_law_state", "_law_one", "_law_hand_now"] 4 [] (fun ds _ => ds) := ⟨PySem.W.mg_of X G a_law_whom, k_law_whom, bn_pos D_law_whom rfl fun _ _ _ _ _ _ us hl => match us, hl with | [_, _, _, _], _ => rfl⟩
  have B_law_board_3 : ShB K mg "_law_board" _ _ ["_law_bag_here", "_law_menu_here", "_law_most"] 3 [] (fun ds _ => ds) := ⟨PySem.W.mg_of X G a_law_board, k_law_board, bn_pos D_law_board rfl fun _ _ _ _ _ _ us hl => match us, hl with | [_, _, _], _ => rfl⟩
  refine ⟨PySem.W.fnOf "law" "law" (defArgs stlaw) (defBody stlaw) (defScope stlaw) .none kVlaw dclaw pmlaw anlaw cdlaw ctlaw, fun s v => .of_eq rfl, fun base _ _ => ?_⟩
  have Ohand_seen := okhand_seen (P := l.prog) (w := w) (base := base) T Dhand_seen
  have Chand_seen_3 := Bhand_seen_3.cal Ohand_seen
  have Otakes := oktakes (P := l.prog) (w := w) (base := base) T Dtakes Btakes_3_own_hand Chand_seen_3
  have Ctakes_3_hand_own := Btakes_3_hand_own.cal Otakes
  have Ctakes_3_own_hand := Btakes_3_own_hand.cal Otakes
  have Otaken := oktaken (P := l.prog) (w := w) (base := base) T Dtaken Ctakes_3_own_hand
  have Ctaken_2 := Btaken_2.cal Otaken
  have Ctaken_2_own_hand := Btaken_2_own_hand.cal Otaken
  have O_law_bag := ok_law_bag (P := l.prog) (w := w) (base := base) T D_law_bag
  have C_law_bag_1 := B_law_bag_1.cal O_law_bag
  have O_law_get := ok_law_get (P := l.prog) (w := w) (base := base) T D_law_get
  have C_law_get_2 := B_law_get_2.cal O_law_get
  have O_law_pick := ok_law_pick (P := l.prog) (w := w) (base := base) T D_law_pick C_law_get_2
  have C_law_pick_2 := B_law_pick_2.cal O_law_pick
  have O_law_same := ok_law_same (P := l.prog) (w := w) (base := base) T D_law_same B_law_same_2
  have C_law_same_2 := B_law_same_2.cal O_law_same
  have O_law_shuffled := ok_law_shuffled (P := l.prog) (w := w) (base := base) T D_law_shuffled C_law_get_2
  have C_law_shuffled_2 := B_law_shuffled_2.cal O_law_shuffled
  have O_law_word := ok_law_word (P := l.prog) (w := w) (base := base) T D_law_word C_law_get_2
  have C_law_word_1 := B_law_word_1.cal O_law_word
  have O_law_menu := ok_law_menu (P := l.prog) (w := w) (base := base) T D_law_menu C_law_get_2 C_law_shuffled_2 C_law_word_1
  have C_law_menu_1 := B_law_menu_1.cal O_law_menu
  have O_law_words := ok_law_words (P := l.prog) (w := w) (base := base) T D_law_words C_law_get_2
  have C_law_words_2 := B_law_words_2.cal O_law_words
  have O_law_cond := ok_law_cond (P := l.prog) (w := w) (base := base) T D_law_cond B_law_cond_3 C_law_get_2 C_law_pick_2
  have C_law_cond_3 := B_law_cond_3.cal O_law_cond
  have O_law_change := ok_law_change (P := l.prog) (w := w) (base := base) T D_law_change C_law_get_2 C_law_pick_2 C_law_words_2 C_law_cond_3
  have C_law_change_3 := B_law_change_3.cal O_law_change
  have O_law_way := ok_law_way (P := l.prog) (w := w) (base := base) T D_law_way C_law_get_2 C_law_pick_2
  have C_law_way_2 := B_law_way_2.cal O_law_way
  have O_law_act := ok_law_act (P := l.prog) (w := w) (base := base) T D_law_act C_law_get_2 C_law_pick_2 C_law_cond_3 C_law_change_3
  have C_law_act_2 := B_law_act_2.cal O_law_act
  obtain ⟨O_law_stand, O_law_writ⟩ := ok_law_stand (P := l.prog) (w := w) (base := base) T D_law_stand D_law_writ B_law_stand_3 B_law_writ_3 C_law_get_2 C_law_pick_2 C_law_cond_3 C_law_change_3 C_law_way_2 C_law_act_2
  have C_law_stand_3 := B_law_stand_3.cal O_law_stand
  have C_law_writ_3 := B_law_writ_3.cal O_law_writ
  have O_law_card := ok_law_card (P := l.prog) (w := w) (base := base) T D_law_card C_law_get_2 C_law_pick_2 C_law_words_2 C_law_writ_3
  have C_law_card_2 := B_law_card_2.cal O_law_card
  have O_law_look := ok_law_look (P := l.prog) (w := w) (base := base) T D_law_look
  have C_law_look_4 := B_law_look_4.cal O_law_look
  have O_law_with := ok_law_with (P := l.prog) (w := w) (base := base) T D_law_with
  have C_law_with_3 := B_law_with_3.cal O_law_with
  have O_law_from := ok_law_from (P := l.prog) (w := w) (base := base) T D_law_from
  have C_law_from_3 := B_law_from_3.cal O_law_from
  have O_law_sees := ok_law_sees (P := l.prog) (w := w) (base := base) T D_law_sees B_law_sees_5 C_law_from_3
  have C_law_sees_5 := B_law_sees_5.cal O_law_sees
  have O_law_whom := ok_law_whom (P := l.prog) (w := w) (base := base) T D_law_whom C_law_sees_5
  have C_law_whom_4 := B_law_whom_4.cal O_law_whom
  have O_law_board := ok_law_board (P := l.prog) (w := w) (base := base) T D_law_board C_law_get_2 C_law_pick_2 C_law_shuffled_2 C_law_card_2
  have C_law_board_3 := B_law_board_3.cal O_law_board
  exact law_endG (oklaw (P := l.prog) (w := w) (base := base) T Dlaw Ctakes_3_hand_own Ctaken_2 Ctaken_2_own_hand C_law_bag_1 C_law_get_2 C_law_pick_2 C_law_same_2 C_law_shuffled_2 C_law_menu_1 C_law_cond_3 C_law_look_4 C_law_with_3 C_law_whom_4 C_law_board_3) main
end Law
open PySem PySem.W PyProof.Rows in
set_option maxRecDepth 100000 in
set_option maxHeartbeats 0 in
theorem PySem.Challenge.cw_standwrit_k07_whom_conditions_take_holds : PySem.Challenge.rw_standwrit_k07_whom_conditions_take.Holds := by
  w_on; o_law; k_head; (case hw => w_witness2)
  k_fill
  refine DD.walkG (l := PySem.Challenge.rw_standwrit_k07_whom_conditions_take) (k := 19) (x := "_law_script") rfl rfl (DD.room_caller ⟨rfl, by decide, by decide⟩) (fun w h Y => PySem.W.kIn_of Y) ?F
  case F =>
    intro w mg fa h KX G hmg
    refine' Law.all_mk KX G hmg ?ahand_seen ?lhand_seen ?chand_seen ?khand_seen ?atakes ?ltakes ?ctakes ?ktakes ?d0takes ?d1takes ?ataken ?ltaken ?ctaken ?ktaken ?d0taken ?d1taken ?a_law_bag ?l_law_bag ?c_law_bag ?k_law_bag ?a_law_get ?l_law_get ?c_law_get ?k_law_get ?a_law_pick ?l_law_pick ?c_law_pick ?k_law_pick ?a_law_same ?l_law_same ?c_law_same ?k_law_same ?a_law_shuffled ?l_law_shuffled ?c_law_shuffled ?k_law_shuffled ?a_law_word ?l_law_word ?c_law_word ?k_law_word ?a_law_menu ?l_law_menu ?c_law_menu ?k_law_menu ?a_law_words ?l_law_words ?c_law_words ?k_law_words ?a_law_cond ?l_law_cond ?c_law_cond ?k_law_cond ?a_law_change ?l_law_change ?c_law_change ?k_law_change ?a_law_stand ?l_law_stand ?c_law_stand ?k_law_stand ?a_law_way ?l_law_way ?c_law_way ?k_law_way ?a_law_act ?l_law_act ?c_law_act ?k_law_act ?a_law_writ ?l_law_writ ?c_law_writ ?k_law_writ ?a_law_card ?l_law_card ?c_law_card ?k_law_card ?a_law_look ?l_law_look ?c_law_look ?k_law_look ?a_law_with ?l_law_with ?c_law_with ?k_law_with ?a_law_from ?l_law_from ?c_law_from ?k_law_from ?a_law_sees ?l_law_sees ?c_law_sees ?k_law_sees ?a_law_whom ?l_law_whom ?c_law_whom ?k_law_whom ?a_law_board ?l_law_board ?c_law_board ?k_law_board ?alaw ?llaw ?claw ?klaw ?b_all ?b_any ?b_bool ?b_dict ?b_enumerate ?b_int ?b_isinstance ?b_len ?b_list ?b_range ?b_repr ?b_set ?b_sorted ?b_str ?b_tuple ?b_zip Law.main
    (case ahand_seen => k_is)
    (case lhand_seen => k_is)
    (case chand_seen => k_is)
    (case khand_seen => k_is)
    (case atakes => k_is)
    (case ltakes => k_is)
    (case ctakes => k_is)
    (case ktakes => k_is)
    (case d0takes => k_is)
    (case d1takes => k_is)
    (case ataken => k_is)
    (case ltaken => k_is)
    (case ctaken => k_is)
    (case ktaken => k_is)
    (case d0taken => k_is)
    (case d1taken => k_is)
    (case a_law_bag => k_is)
    (case l_law_bag => k_is)
    (case c_law_bag => k_is)
    (case k_law_bag => k_is)
    (case a_law_get => k_is)
    (case l_law_get => k_is)
    (case c_law_get => k_is)
    (case k_law_get => k_is)
    (case a_law_pick => k_is)
    (case l_law_pick => k_is)
    (case c_law_pick => k_is)
    (case k_law_pick => k_is)
    (case a_law_same => k_is)
    (case l_law_same => k_is)
    (case c_law_same => k_is)
    (case k_law_same => k_is)
    (case a_law_shuffled => k_is)
    (case l_law_shuffled => k_is)
    (case c_law_shuffled => k_is)
    (case k_law_shuffled => k_is)
    (case a_law_word => k_is)
    (case l_law_word => k_is)
    (case c_law_word => k_is)
    (case k_law_word => k_is)
    (case a_law_menu => k_is)
    (case l_law_menu => k_is)
    (case c_law_menu => k_is)
    (case k_law_menu => k_is)
    (case a_law_words => k_is)
    (case l_law_words => k_is)
    (case c_law_words => k_is)
    (case k_law_words => k_is)
    (case a_law_cond => k_is)
    (case l_law_cond => k_is)
    (case c_law_cond => k_is)
    (case k_law_cond => k_is)
    (case a_law_change => k_is)
    (case l_law_change => k_is)
    (case c_law_change => k_is)
    (case k_law_change => k_is)
    (case a_law_stand => k_is)
    (case l_law_stand => k_is)
    (case c_law_stand => k_is)
    (case k_law_stand => k_is)
    (case a_law_way => k_is)
    (case l_law_way => k_is)
    (case c_law_way => k_is)
    (case k_law_way => k_is)
    (case a_law_act => k_is)
    (case l_law_act => k_is)
    (case c_law_act => k_is)
    (case k_law_act => k_is)
    (case a_law_writ => k_is)
    (case l_law_writ => k_is)
    (case c_law_writ => k_is)
    (case k_law_writ => k_is)
    (case a_law_card => k_is)
    (case l_law_card => k_is)
    (case c_law_card => k_is)
    (case k_law_card => k_is)
    (case a_law_look => k_is)
    (case l_law_look => k_is)
    (case c_law_look => k_is)
    (case k_law_look => k_is)
    (case a_law_with => k_is)
    (case l_law_with => k_is)
    (case c_law_with => k_is)
    (case k_law_with => k_is)
    (case a_law_from => k_is)
    (case l_law_from => k_is)
    (case c_law_from => k_is)
    (case k_law_from => k_is)
    (case a_law_sees => k_is)
    (case l_law_sees => k_is)
    (case c_law_sees => k_is)
    (case k_law_sees => k_is)
    (case a_law_whom => k_is)
    (case l_law_whom => k_is)
    (case c_law_whom => k_is)
    (case k_law_whom => k_is)
    (case a_law_board => k_is)
    (case l_law_board => k_is)
    (case c_law_board => k_is)
    (case k_law_board => k_is)
    (case alaw => k_is)
    (case llaw => k_is)
    (case claw => k_is)
    (case klaw => k_is)
    (case b_all => k_is)
    (case b_any => k_is)
    (case b_bool => k_is)
    (case b_dict => k_is)
    (case b_enumerate => k_is)
    (case b_int => k_is)
    (case b_isinstance => k_is)
    (case b_len => k_is)
    (case b_list => k_is)
    (case b_range => k_is)
    (case b_repr => k_is)
    (case b_set => k_is)
    (case b_sorted => k_is)
    (case b_str => k_is)
    (case b_tuple => k_is)
    (case b_zip => k_is)
