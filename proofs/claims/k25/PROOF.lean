import PyProof.Rows.All
import Wide.All
import OpenK.AllK
import Wide.FinOn
import HandS.Lambda
import HandS.ForMost
import HandS.Exc
import HandS.ExcOwn
import HandS.WordsExc
import HandS.CallSlots
import HandS.Walk
import HandS.Conv
import HandS.TupAny
import HandS.IsInst
import HandS.Flow
import HandS.Iter
import HandS.Zip
import HandS.Deep
import HandS.TupLe
import HandS.SetFor
import HandS.SetKeys
import HandS.Strs
import PyProof.Rows.SortShellAny
import HandS.Wide
import HandS.HotCalls
import KE.KExcMore
import KE.KUnpackStar
import HandS.Defaults
import HandS.MakeKwOnly
import HandS.EndOwn
import KE.GoesMore
import HandS.SetBool
import HandS.NoneIn
import HandS.List
import HandS.FStr
import HandS.Text
import KE.KxText
import HandS.MakeKw
import KE.KDictWalk
import KE.GoesEnum
import PyProof.ReprRoads
import PyProof.ReprBulk
import HandS.RaiseMore
import HandS.DictComp
import KE.SortData
import KE.KDictCopyH
import HandS.Finally
import PyProof.InstSpecial
import HandS.SetIn
import KE.DataMinMax
import KE.KDictPairs
import KE.KDictSum
import HandS.TupSets
import HandS.Style
import PyProof.TupleOfSeq
import KE.KEqDict
import PyProof.InstNe
import HandS.DeepEq
import PySem.Challenge.RW_standwrit_k25_tables_begun
import KE.OsRunLaw
set_option Elab.async false
set_option linter.all false
set_option maxRecDepth 100000
set_option maxHeartbeats 4000000
namespace Hd
open PySem PySem.W PySem.Calls PyProof.Rows
structure KA where
  k : Params → Frag
  a : List Addr
  e : ∀ P, a = (k P).map (·.1)
def pk {p : Prop} (_ : p → p) (h : KA) : KA := h
end Hd
open PySem PySem.W PySem.Calls PyProof.Rows in
local macro_rules | `(tactic| o_headL (kHook $k $a $e)) => `(tactic| (assumption; exact ⟨$k, $a, $e⟩))
namespace Hd
open PySem PySem.W PySem.Calls PyProof.Rows
noncomputable abbrev pp : Program := PySem.Challenge.pw_standwrit_k25_tables_begun
noncomputable def ka : KA := by
  refine pk (p := OpenRow.Holds (OpenLaw.row PySem.Challenge.rw_standwrit_k25_tables_begun)) ?g ?h
  intro hh
  k_headL
noncomputable def vw : Program := PySem.W.view pp [0, 2, 3, 4, 5, 6, 7, 8, 9, 10, 11, 12, 13, 14, 15, 16, 17, 18, 20, 21, 22, 23, 26, 27, 29, 30, 31, 34, 35, 36, 37, 38, 39, 40, 41, 42, 43, 44, 45, 46, 
  47, 48, 49, 50, 51, 52, 53, 54, 55, 58, 59, 60, 62, 63, 64, 65, 66, 67, 68, 70, 71, 72, 73, 74, 75, 76, 77, 78, 79, 80, 81, 82, 83, 84, 85, 86, 87, 88, 
  89, 91, 92, 93, 94, 96, 97, 98, 99, 100, 101, 102, 103, 104, 105, 106, 108, 109, 110, 111, 112, 113, 114, 115, 116, 117, 118, 119, 120, 121, 122, 123, 
  124, 125, 126, 127, 128, 129, 130, 132, 133, 134, 135, 136, 137, 138]
def loose : List PySem.Str := [.ofString "takes", .ofString "taken", .ofString "taken_looks", .ofString "passed", .ofString "CONDITIONS", .ofString "CHANGES", .ofString "LAYER_OF", .ofString "WAYS", .ofString "LETS", .ofString "ACTS", .ofString "is_condition", .ofString "is_change", .ofString "is_writ", .ofString "Sheet", .ofString "LEAVES", .ofString "SIZES", .ofString "DEEDS", .ofString "Table"]
def row : String := "special-get-raises"
noncomputable def Xt (s : Shared) : Bool := xlAt vw [] s && recOk (RowW.records (OpenRow.toRowW (OpenLaw.row PySem.Challenge.rw_standwrit_k25_tables_begun))) s
noncomputable def wb (b : Bool) (w : World) : World := w.withFollow row b
noncomputable def E (b : Bool) (w : World) (os : OsState) : Option SharedT := HeadRun.endF (HeadRun.stepQ (HeadRun.denQ HeadRun.tabQ) pp (wb b w)) 10867 pp (wb b w) os
noncomputable def O (b : Bool) (w : World) (os : OsState) (a : Nat) : Obj := match E b w os with
  | some s => (match s.tree.get a with
    | some o => o
    | none => default)
  | none => default
def mg (g : Nat → Obj) : Nat → Nat → List Obj → Frag → List Obj
  | 0, _, _, _ => []
  | c + 1, a, bs, ks => HeadRun.frNat a fun a => match ks with
    | [] => (match bs with
      | [] => g a :: mg g c (a + 1) [] []
      | o :: bs => o :: mg g c (a + 1) bs [])
    | (k, v) :: kr => (match Nat.beq k a with
      | true => v :: mg g c (a + 1) bs.tail kr
      | false => (match bs with
        | [] => g a :: mg g c (a + 1) [] ((k, v) :: kr)
        | o :: bs => o :: mg g c (a + 1) bs ((k, v) :: kr)))
def tabs : List Nat := [16, 30, 50, 69, 88, 107, 126, 145, 164, 183, 202, 221, 228, 247, 254, 273, 292, 299, 319, 326, 345, 352, 371, 391, 405, 410, 417, 425, 431, 436, 441, 
  448, 455, 462, 480, 487, 492, 497, 504, 511, 519, 525, 530, 535, 540, 546, 553, 558, 565, 572, 579, 584, 589, 594, 599, 606, 611, 616, 621, 628, 635, 
  640, 647, 654, 659, 666, 673, 678, 683, 688, 693, 707, 714, 719, 726, 733, 747, 752, 766, 773, 780, 787, 794, 801, 808, 815, 822, 829, 836, 843, 848, 
  856, 871, 878, 883, 890, 897, 904, 909, 923, 930, 937, 944, 951, 958, 965, 972, 979, 996, 1003, 1010, 1017, 1024, 1029, 1034, 1041, 1048, 1055, 1062, 
  1069, 1076, 1082, 1089, 1094, 1107, 1114, 1121, 1128, 1135, 1142, 1151, 1160, 1167, 1174, 1181, 1186, 1193, 1200, 1207, 1214, 1222, 1227, 1234, 1241, 
  1249, 1263, 1270, 1277, 1282, 1289, 1296, 1301]
noncomputable def G (b : Bool) (w : World) (os : OsState) (a : Nat) : Obj := match tabs.any (Nat.beq a) with
  | true => ⟨.none, none, .fields #[], #[]⟩
  | false => O b w os a
noncomputable def X (b : Bool) (w : World) (os : OsState) : SharedT := match HeadRun.putAll (mg (G b w os) 1307 0 (boot_heap (wb b w).params).objs.toList (ka.heap_1 (wb b w).params)) .nil 0 with
  | some (t, _) => ⟨t, 1307, { }, #[], { }, 2150, os⟩
  | none => ⟨.nil, 0, { }, #[], { }, 0, os⟩
theorem fin_f (w : World) (os : OsState) : (E false w os).map (fun s => s) = some (X false w os) := by kernel_rfl
theorem fin_t (w : World) (os : OsState) : (E true w os).map (fun s => s) = some (X true w os) := by kernel_rfl
theorem self {α : Type} {x : Option α} {y : α} (h : x.map (fun s => s) = some y) : x = some y := by
  cases x with
  | none => cases h
  | some s => exact congrArg some (Option.some.inj h)
theorem fin (b : Bool) (w : World) (os : OsState) : E b w os = some (X b w os) := by
  cases b
  · exact self (fin_f w os)
  · exact self (fin_t w os)
theorem q0 (b : Bool) (w : World) (os : OsState) : (HeadRun.seenQ vw loose (importedModules pp.main.body) Xt (X b w os).abs).1 = expectedOf vw := by kernel_rfl
theorem q1 (b : Bool) (w : World) (os : OsState) : (HeadRun.seenQ vw loose (importedModules pp.main.body) Xt (X b w os).abs).2.1 = bltViewBooted := by kernel_rfl
theorem q2 (b : Bool) (w : World) (os : OsState) : (HeadRun.seenQ vw loose (importedModules pp.main.body) Xt (X b w os).abs).2.2.1 = true := by kernel_rfl
theorem q3 (b : Bool) (w : World) (os : OsState) : (HeadRun.seenQ vw loose (importedModules pp.main.body) Xt (X b w os).abs).2.2.2.1 = true := by kernel_rfl
theorem q4 (b : Bool) (w : World) (os : OsState) : (HeadRun.seenQ vw loose (importedModules pp.main.body) Xt (X b w os).abs).2.2.2.2.1 = pinGoodD (drecsOf vw) := by kernel_rfl
theorem q5s (b : Bool) (w : World) (os : OsState) : plainSeenE vw (looseW vw loose) (X b w os).abs = plainGoodE vw (looseW vw loose) := by kernel_rfl
theorem q5 (b : Bool) (w : World) (os : OsState) : (HeadRun.seenQ vw loose (importedModules pp.main.body) Xt (X b w os).abs).2.2.2.2.2.1 = plainGoodE vw (looseW vw loose) := by
  rw [← HeadRun.seenQ_eq]
  exact q5s b w os
theorem q6 (b : Bool) (w : World) (os : OsState) : (HeadRun.seenQ vw loose (importedModules pp.main.body) Xt (X b w os).abs).2.2.2.2.2.2.1 = plainGoodD vw loose := by kernel_rfl
theorem q7 (b : Bool) (w : World) (os : OsState) : (HeadRun.seenQ vw loose (importedModules pp.main.body) Xt (X b w os).abs).2.2.2.2.2.2.2.1 = wideGood vw := by kernel_rfl
theorem q8 (b : Bool) (w : World) (os : OsState) : (HeadRun.seenQ vw loose (importedModules pp.main.body) Xt (X b w os).abs).2.2.2.2.2.2.2.2 = clsGoodW vw loose := by kernel_rfl
theorem q9 (b : Bool) (w : World) (os : OsState) : HeadRun.looksF pp (boot_heap (wb b w).params) (X b w os).abs = true := by kernel_rfl
theorem q10 (b : Bool) (w : World) (os : OsState) : ka.a.map (HeadRun.getT (X b w os)) = (ka.heap_1 (wb b w).params).map fun x => some x.2 := by kernel_rfl
theorem ext9 {A B C D E F G H I : Type} {x : A × B × C × D × E × F × G × H × I} {r0 : A} {r1 : B} {r2 : C} {r3 : D} {r4 : E} {r5 : F} {r6 : G} {r7 : H} {r8 : I} (a : x.1 = r0) (b : x.2.1 = r1) (c : x.2.2.1 = r2) (d : x.2.2.2.1 = r3) (e : x.2.2.2.2.1 = r4) (f : x.2.2.2.2.2.1 = r5) (g : x.2.2.2.2.2.2.1 = r6) (h : x.2.2.2.2.2.2.2.1 = r7) (i : x.2.2.2.2.2.2.2.2 = r8) : x = (r0, r1, r2, r3, r4, r5, r6, r7, r8) := by
  subst a b c d e f g h i
  rfl
theorem sees (b : Bool) (w : World) (os : OsState) : HeadRun.seenQ vw loose (importedModules pp.main.body) Xt (X b w os).abs = (expectedOf vw, bltViewBooted, true, true, pinGoodD (drecsOf vw), plainGoodE vw (looseW vw loose), plainGoodD vw loose, wideGood vw, clsGoodW vw loose) :=
  ext9 (q0 b w os) (q1 b w os) (q2 b w os) (q3 b w os) (q4 b w os) (q5 b w os) (q6 b w os) (q7 b w os) (q8 b w os)
theorem run (b : Bool) (w : World) (os : OsState) : (E b w os).map (fun s => (HeadRun.looksF pp (boot_heap (wb b w).params) s.abs, HeadRun.seenQ vw loose (importedModules pp.main.body) Xt s.abs, ka.a.map (HeadRun.getT s))) = some (true, openGood vw loose, (ka.heap_1 (wb b w).params).map fun x => some x.2) := by
  have e : openGood vw loose = (expectedOf vw, bltViewBooted, true, true, pinGoodD (drecsOf vw), plainGoodE vw (looseW vw loose), plainGoodD vw loose, wideGood vw, clsGoodW vw loose) := rfl
  rw [e, fin, Option.map_some, q9, sees, q10]
theorem left : LeftO pp vw loose Xt (Hook.obs (kHook ka.heap_1 ka.a ka.e)) (Hook.val (kHook ka.heap_1 ka.a ka.e)) 11467 true :=
  HeadRun.left_oneK (M := 10867) (by kernel_rfl) (by rfl) (fun s => by kernel_rfl) (by rfl) fun w os => by
    have z := run (w.params.followText row) w os
    unfold E wb at z
    rw [World.withFollow_self] at z
    exact z
end Hd
namespace DD
/-- does the law's own text hold lambdas -/
def lamOn : Bool := true
end DD
set_option Elab.async false
set_option linter.all false
set_option maxRecDepth 100000
set_option maxHeartbeats 4000000
namespace DD
open PySem PySem.Spec L2
inductive D where
  | non | bl (b : Bool) | int (i : Int) | str (s : Str)
  | tup (xs : List D) | ktp (xs : List D) | lst (xs : List D) | rol (xs : List D) | dct (ks us : List D) | dtt (ks us : List D) | ins (c : Str) (ns : List Str) (us : List D)
  | ref (r : Nat) | glb (x : Str) | ty (n : String)
inductive Cell where
  | lst (xs : List D) | dct (ks us : List D) | dtt (ks us : List D) | ins (c : Str) (ns : List Str) (us : List D) | gone
  | lkd (ks us : List D) | lkt (ks us : List D)
/-- a dict that is locked: read, not written -/
def isLk : Cell → Bool
  | .lkd _ _ => true
  | .lkt _ _ => true
  | _ => false
abbrev Hd := List Cell
/-- what an error bears: its class, its own fields -/
structure Xc where
  c : Str
  ns : List Str
  us : List D
inductive Res (α : Type) where
  | ok (a : α) (h : Hd) | exc (x : Xc) (h : Hd) | bad
def Res.bind {α β : Type} : Res α → (α → Hd → Res β) → Res β
  | .ok a h, k => k a h
  | .exc x h, _ => .exc x h
  | .bad, _ => .bad
abbrev Env := List (Option D)
/-- fixed by the program -/
structure Ct where
  K : PySem.W.Frag
  mg : Str → Option Value
/-- a world: what is frozen, what is pinned, where the cells stand -/
structure Wd where
  F : Hp
  P : Hp
  φ : Nat → Option Addr
structure Le0 (w w' : Wd) : Prop where
  F : ∀ a o, w.F a = some o → w'.F a = some o
  φ : ∀ r a, w.φ r = some a → w'.φ r = some a
def isFz : HO → Bool
  | .frz _ _ => true
  | _ => false
structure Le (w w' : Wd) : Prop extends Le0 w w' where
  P : w'.P = w.P
/-- what is locked stays -/
structure Le1 (w w' : Wd) : Prop extends Le0 w w' where
  K : ∀ a o, w.P a = some o → isFz o = true → w'.P a = some o
theorem Le.to1 {w w' : Wd} (l : Le w w') : Le1 w w' := ⟨l.toLe0, fun a o e _ => by rw [l.P]; exact e⟩
theorem Le1.refl (w : Wd) : Le1 w w := ⟨⟨fun _ _ h => h, fun _ _ h => h⟩, fun _ _ e _ => e⟩
theorem Le1.trans {a b c : Wd} (x : Le1 a b) (y : Le1 b c) : Le1 a c := ⟨⟨fun p o h => y.F p o (x.F p o h), fun r p h => y.φ r p (x.φ r p h)⟩, fun p o e f => y.K p o (x.K p o e f) f⟩
theorem le1_of {w w' : Wd} {a : Addr} {u : HO} (l : Le0 w w') (e : w'.P = L2.upd w.P a u) (f : w.P a = none) : Le1 w w' := ⟨l, fun b o q _ => by
  rw [e, L2.upd_ne (by rintro rfl; rw [f] at q; cases q)]; exact q⟩
theorem Le0.refl (w : Wd) : Le0 w w := ⟨fun _ _ h => h, fun _ _ h => h⟩
theorem Le0.trans {a b c : Wd} (x : Le0 a b) (y : Le0 b c) : Le0 a c := ⟨fun p o h => y.F p o (x.F p o h), fun r p h => y.φ r p (x.φ r p h)⟩
theorem Le.refl (w : Wd) : Le w w := ⟨.refl w, rfl⟩
theorem Le.trans {a b c : Wd} (x : Le a b) (y : Le b c) : Le a c := ⟨x.toLe0.trans y.toLe0, y.P.trans x.P⟩
def keyD : D → Option Key
  | .int i => some (.inl i)
  | .str s => some (.inr s)
  | _ => none
def keysD : List D → Option (List Key)
  | [] => some []
  | d :: r => match keyD d, keysD r with
    | some k, some l => some (k :: l)
    | _, _ => none
def tkeyD : D → Option (List Key)
  | .tup xs => keysD xs
  | _ => none
/-- a tuple that was made -/
def TpAt (K : PySem.W.Frag) (F : Hp) (a : Addr) (vs : List V) : Prop := F a = some (.tup vs)
/-- a tuple written at the top -/
def TpK (K : PySem.W.Frag) (a : Addr) (vs : List V) : Prop := ∃ (o : Obj) (its : Array Value) (n : Nat), K.lookup a = some o ∧ o.cls = .type "tuple" ∧ o.data = .seq its n ∧ its.size ≤ sizeLine ∧ Vals vs its.toList
mutual
def VR (c : Ct) (w : Wd) : D → V → Prop
  | .non, v => v = .non
  | .bl b, v => v = .bl b
  | .int i, v => v = .int i
  | .str s, v => v = .str s
  | .tup xs, v => ∃ a vs, v = .ref a ∧ TpAt c.K w.F a vs ∧ VRs c w xs vs
  | .ktp xs, v => ∃ a vs, v = .ref a ∧ TpK c.K a vs ∧ VRs c w xs vs
  | .lst xs, v => ∃ a vs, v = .ref a ∧ w.F a = some (.lst vs) ∧ VRs c w xs vs
  | .rol xs, v => ∃ a vs, v = .ref a ∧ SqL c.K w.F a vs ∧ VRs c w xs vs
  | .dct ks us, v => ∃ (a : Addr) (od : Obj) (kvs : List (Key × V)), v = .ref a ∧ w.F a = some (.frz od (.dK kvs)) ∧ ks.map keyD = kvs.map (fun p => some p.1) ∧ VRs c w us (kvs.map (·.2))
  | .dtt ks us, v => ∃ (a : Addr) (od : Obj) (kvs : List (List Key × V)), v = .ref a ∧ w.F a = some (.frz od (.dT kvs)) ∧ ks.map tkeyD = kvs.map (fun p => some p.1) ∧ VRs c w us (kvs.map (·.2))
  | .ins n ns us, v => ∃ a C dx fs, v = .ref a ∧ c.mg n = some (.ref C) ∧ w.F a = some (.ins C dx fs) ∧ ns = fs.map (·.1) ∧ VRs c w us (fs.map (·.2)) ∧ ∀ f ∈ ns, NoAttr c.K C f
  | .ref r, v => ∃ a, v = .ref a ∧ w.φ r = some a
  | .glb x, v => ∃ a, v = .ref a ∧ c.mg x = some (.ref a)
  | .ty n, v => v = .ty n
def VRs (c : Ct) (w : Wd) : List D → List V → Prop
  | [], vs => vs = []
  | d :: ds, vs => ∃ v r, vs = v :: r ∧ VR c w d v ∧ VRs c w ds r
end
theorem Rd.le {F F' : Hp} {a : Addr} {u : HO} (h : ∀ a o, F a = some o → F' a = some o) (r : Rd F a u) : Rd F' a u := by
  rcases r with r | ⟨o, r⟩
  · exact .inl (h _ _ r)
  · exact .inr ⟨o, h _ _ r⟩
theorem SqL_le {K : PySem.W.Frag} {F F' : Hp} {a : Addr} {vs : List V} (h : ∀ a o, F a = some o → F' a = some o) (r : SqL K F a vs) : SqL K F' a vs := by
  rcases r with r | r
  · exact .inl (Rd.le h r)
  · exact .inr r
theorem TpAt_le {K : PySem.W.Frag} {F F' : Hp} {a : Addr} {vs : List V} (h : ∀ a o, F a = some o → F' a = some o) (r : TpAt K F a vs) : TpAt K F' a vs := h _ _ r
theorem SqT_le {K : PySem.W.Frag} {F F' : Hp} {a : Addr} {vs : List V} (h : ∀ a o, F a = some o → F' a = some o) (r : TpAt K F a vs) : SqT K F' a vs := .inl (.inl (h _ _ r))
theorem TpK.sq {K : PySem.W.Frag} {H : Hp} {a : Addr} {vs : List V} (r : TpK K a vs) : SqT K H a vs := .inr r
mutual
theorem VR.le0 {c : Ct} {w w' : Wd} (l : Le0 w w') : ∀ {d : D} {v : V}, VR c w d v → VR c w' d v
  | .non, v, h => by simpa only [VR] using h
  | .bl b, v, h => by simpa only [VR] using h
  | .int i, v, h => by simpa only [VR] using h
  | .str s, v, h => by simpa only [VR] using h
  | .tup xs, v, h => by
    simp only [VR] at h ⊢
    obtain ⟨a, vs, e, q, r⟩ := h
    exact ⟨a, vs, e, TpAt_le l.F q, VRs.le0 l r⟩
  | .ktp xs, v, h => by
    simp only [VR] at h ⊢
    obtain ⟨a, vs, e, q, r⟩ := h
    exact ⟨a, vs, e, q, VRs.le0 l r⟩
  | .lst xs, v, h => by
    simp only [VR] at h ⊢
    obtain ⟨a, vs, e, q, r⟩ := h
    exact ⟨a, vs, e, l.F _ _ q, VRs.le0 l r⟩
  | .rol xs, v, h => by
    simp only [VR] at h ⊢
    obtain ⟨a, vs, e, q, r⟩ := h
    exact ⟨a, vs, e, SqL_le l.F q, VRs.le0 l r⟩
  | .dct ks us, v, h => by
    simp only [VR] at h ⊢
    obtain ⟨a, od, kvs, e, q, k, r⟩ := h
    exact ⟨a, od, kvs, e, l.F _ _ q, k, VRs.le0 l r⟩
  | .dtt ks us, v, h => by
    simp only [VR] at h ⊢
    obtain ⟨a, od, kvs, e, q, k, r⟩ := h
    exact ⟨a, od, kvs, e, l.F _ _ q, k, VRs.le0 l r⟩
  | .ins n ns us, v, h => by
    simp only [VR] at h ⊢
    obtain ⟨a, C, dx, fs, e, m, q, k, r, na⟩ := h
    exact ⟨a, C, dx, fs, e, m, l.F _ _ q, k, VRs.le0 l r, na⟩
  | .ref r, v, h => by
    simp only [VR] at h ⊢
    obtain ⟨a, e, q⟩ := h
    exact ⟨a, e, l.φ _ _ q⟩
  | .glb x, v, h => by simpa only [VR] using h
  | .ty n, v, h => by simpa only [VR] using h
theorem VRs.le0 {c : Ct} {w w' : Wd} (l : Le0 w w') : ∀ {ds : List D} {vs : List V}, VRs c w ds vs → VRs c w' ds vs
  | [], vs, h => by simpa only [VRs] using h
  | d :: ds, vs, h => by
    simp only [VRs] at h ⊢
    obtain ⟨v, r, e, q, z⟩ := h
    exact ⟨v, r, e, VR.le0 l q, VRs.le0 l z⟩
end
theorem VR.le {c : Ct} {w w' : Wd} (l : Le w w') {d : D} {v : V} (h : VR c w d v) : VR c w' d v := VR.le0 l.toLe0 h
theorem VRs.le {c : Ct} {w w' : Wd} (l : Le w w') {d : List D} {v : List V} (h : VRs c w d v) : VRs c w' d v := VRs.le0 l.toLe0 h
section
variable {c : Ct} {w : Wd}
theorem VRs.nil : VRs c w [] [] := by simp only [VRs]
theorem VRs.cons {d : D} {v : V} {ds : List D} {vs : List V} (h : VR c w d v) (r : VRs c w ds vs) : VRs c w (d :: ds) (v :: vs) := by
  simp only [VRs]; exact ⟨v, vs, rfl, h, r⟩
theorem VRs.len : ∀ {ds : List D} {vs : List V}, VRs c w ds vs → ds.length = vs.length
  | [], _, h => by simp only [VRs] at h; subst h; rfl
  | d :: ds, _, h => by
    simp only [VRs] at h
    obtain ⟨v, r, rfl, _, z⟩ := h
    simp [VRs.len z]
theorem VRs.get : ∀ {ds : List D} {vs : List V} {i : Nat} {d : D}, VRs c w ds vs → ds[i]? = some d → ∃ v, vs[i]? = some v ∧ VR c w d v
  | [], _, _, _, _, e => by simp at e
  | x :: ds, _, 0, d, h, e => by
    simp only [VRs] at h
    obtain ⟨v, r, rfl, q, z⟩ := h
    simp at e; subst e
    exact ⟨v, rfl, q⟩
  | x :: ds, _, i + 1, d, h, e => by
    simp only [VRs] at h
    obtain ⟨v, r, rfl, q, z⟩ := h
    obtain ⟨u, e1, e2⟩ := VRs.get (i := i) z (by simpa using e)
    exact ⟨u, by simpa using e1, e2⟩
theorem VRs.get' {ds : List D} {vs : List V} {i : Nat} {v : V} (h : VRs c w ds vs) (e : vs[i]? = some v) : ∃ d, ds[i]? = some d ∧ VR c w d v := by
  have hl := h.len
  have hi : i < ds.length := by rw [hl]; exact (List.getElem?_eq_some_iff.mp e).1
  have e1 : ds[i]? = some ds[i] := List.getElem?_eq_getElem hi
  obtain ⟨u, e2, r⟩ := h.get e1
  rw [e] at e2; cases e2
  exact ⟨_, e1, r⟩
theorem VRs.append : ∀ {ds es : List D} {vs us : List V}, VRs c w ds vs → VRs c w es us → VRs c w (ds ++ es) (vs ++ us)
  | [], es, _, us, h, g => by simp only [VRs] at h; subst h; exact g
  | d :: ds, es, _, us, h, g => by
    simp only [VRs] at h
    obtain ⟨v, r, rfl, q, z⟩ := h
    exact VRs.cons q (VRs.append z g)
theorem VRs.one {d : D} {v : V} (h : VR c w d v) : VRs c w [d] [v] := .cons h .nil
theorem VRs.of_get : ∀ {ds : List D} {vs : List V}, ds.length = vs.length → (∀ (i : Nat) (d : D) (v : V), ds[i]? = some d → vs[i]? = some v → VR c w d v) → VRs c w ds vs
  | [], [], _, _ => .nil
  | [], _ :: _, h, _ => by simp at h
  | _ :: _, [], h, _ => by simp at h
  | d :: ds, v :: vs, h, g => .cons (g 0 d v rfl rfl) (VRs.of_get (by simpa using h) fun i d v e1 e2 => g (i + 1) d v (by simpa using e1) (by simpa using e2))
theorem VRs.take {ds : List D} {vs : List V} (n : Nat) (h : VRs c w ds vs) : VRs c w (ds.take n) (vs.take n) :=
  .of_get (by simp [h.len]) fun i d v e1 e2 => by
    rw [List.getElem?_take] at e1 e2
    split at e1
    · rename_i hi
      rw [if_pos hi] at e2
      obtain ⟨u, q, r⟩ := h.get e1
      rw [q] at e2; cases e2; exact r
    · cases e1
theorem VRs.drop {ds : List D} {vs : List V} (n : Nat) (h : VRs c w ds vs) : VRs c w (ds.drop n) (vs.drop n) :=
  .of_get (by simp [h.len]) fun i d v e1 e2 => by
    rw [List.getElem?_drop] at e1 e2
    obtain ⟨u, q, r⟩ := h.get e1
    rw [q] at e2; cases e2; exact r
theorem VRs.set {ds : List D} {vs : List V} {d : D} {v : V} (n : Nat) (h : VRs c w ds vs) (q : VR c w d v) : VRs c w (ds.set n d) (vs.set n v) :=
  .of_get (by simp [h.len]) fun i x y e1 e2 => by
    rw [List.getElem?_set] at e1 e2
    rw [h.len] at e1
    split at e1
    · rename_i hi
      rw [if_pos hi] at e2
      split at e1
      · rename_i hj
        rw [if_pos hj] at e2
        cases e1; cases e2; exact q
      · cases e1
    · rename_i hi
      rw [if_neg hi] at e2
      obtain ⟨u, q, r⟩ := h.get e1
      rw [q] at e2; cases e2; exact r
end
def CellOk (c : Ct) (w : Wd) (H : Hp) (a : Addr) : Cell → Prop
  | .lst xs => ∃ vs, H a = some (.lst vs) ∧ VRs c w xs vs
  | .dct ks us => ∃ kvs : List (Key × V), H a = some (.dK kvs) ∧ ks.map keyD = kvs.map (fun p => some p.1) ∧ VRs c w us (kvs.map (·.2))
  | .dtt ks us => ∃ kvs : List (List Key × V), H a = some (.dT kvs) ∧ ks.map tkeyD = kvs.map (fun p => some p.1) ∧ VRs c w us (kvs.map (·.2))
  | .ins n ns us => ∃ C dx fs, c.mg n = some (.ref C) ∧ H a = some (.ins C dx fs) ∧ ns = fs.map (·.1) ∧ VRs c w us (fs.map (·.2)) ∧ ∀ f ∈ ns, NoAttr c.K C f
  | .lkd ks us => ∃ (od : Obj) (kvs : List (Key × V)), H a = some (.frz od (.dK kvs)) ∧ ks.map keyD = kvs.map (fun p => some p.1) ∧ VRs c w us (kvs.map (·.2))
  | .lkt ks us => ∃ (od : Obj) (kvs : List (List Key × V)), H a = some (.frz od (.dT kvs)) ∧ ks.map tkeyD = kvs.map (fun p => some p.1) ∧ VRs c w us (kvs.map (·.2))
  | .gone => True
theorem CellOk.le0 {c : Ct} {w w' : Wd} {H H' : Hp} {a : Addr} {z : Cell} (l : Le0 w w') (e : H' a = H a) (h : CellOk c w H a z) : CellOk c w' H' a z := by
  cases z with
  | lst xs => obtain ⟨vs, q, r⟩ := h; exact ⟨vs, e.trans q, r.le0 l⟩
  | dct ks us => obtain ⟨kvs, q, k, r⟩ := h; exact ⟨kvs, e.trans q, k, r.le0 l⟩
  | dtt ks us => obtain ⟨kvs, q, k, r⟩ := h; exact ⟨kvs, e.trans q, k, r.le0 l⟩
  | ins n ns us => obtain ⟨C, dx, fs, m, q, k, r, na⟩ := h; exact ⟨C, dx, fs, m, e.trans q, k, r.le0 l, na⟩
  | lkd ks us => obtain ⟨od, kvs, q, k, r⟩ := h; exact ⟨od, kvs, e.trans q, k, r.le0 l⟩
  | lkt ks us => obtain ⟨od, kvs, q, k, r⟩ := h; exact ⟨od, kvs, e.trans q, k, r.le0 l⟩
  | gone => trivial
theorem CellOk.le {c : Ct} {w w' : Wd} {H H' : Hp} {a : Addr} {z : Cell} (l : Le w w') (e : H' a = H a) (h : CellOk c w H a z) : CellOk c w' H' a z := CellOk.le0 l.toLe0 e h
/-- the name that the law's own lambdas bear -/
def lamQ : Str := ("law" ++ ".<locals>.") ++ "<lambda>"
/-- P: the table of the law's own code object -/
def lawTab (K : PySem.W.Frag) (mg : Str → Option Value) (P : Addr) : Prop := lamOn = true ∧ ∃ (f c : Addr) (o : Obj) (fd : FuncData), mg "law" = some (.ref f) ∧ K.lookup f = some o ∧ o.data = .func fd ∧ fd.code = .ref c ∧ PySem.W.codeHdIn K c P = true
/-- no table, no code object -/
def plainO (o : HO) : Prop := (∀ ps, o ≠ .tbl ps) ∧ ∀ a q, o ≠ LamX.CodeO a q
theorem plain_lst (xs : List V) : plainO (.lst xs) := ⟨fun _ h => (by cases h), fun _ _ h => (by unfold LamX.CodeO at h; cases h)⟩
theorem plain_tup (xs : List V) : plainO (.tup xs) := ⟨fun _ h => (by cases h), fun _ _ h => (by unfold LamX.CodeO at h; cases h)⟩
theorem plain_dK (xs : List (Key × V)) : plainO (.dK xs) := ⟨fun _ h => (by cases h), fun _ _ h => (by unfold LamX.CodeO at h; cases h)⟩
theorem plain_dT (xs : List (List Key × V)) : plainO (.dT xs) := ⟨fun _ h => (by cases h), fun _ _ h => (by unfold LamX.CodeO at h; cases h)⟩
theorem plain_ins (C : Addr) (dx : Addr) (fs : List (Str × V)) : plainO (.ins C dx fs) := ⟨fun _ h => (by cases h), fun _ _ h => (by unfold LamX.CodeO at h; cases h)⟩
theorem plain_frz (od : Obj) (u : HO) : plainO (.frz od u) := ⟨fun _ h => (by cases h), fun _ _ h => (by unfold LamX.CodeO at h; cases h)⟩
/-- what may be pinned: no tuple either -/
def pinO (o : HO) : Prop := plainO o ∧ ∀ xs, o ≠ .tup xs
theorem pin_lst (xs : List V) : pinO (.lst xs) := ⟨plain_lst xs, fun _ h => (by cases h)⟩
theorem pin_dK (xs : List (Key × V)) : pinO (.dK xs) := ⟨plain_dK xs, fun _ h => (by cases h)⟩
theorem CellOk.plain {c : Ct} {w : Wd} {H : Hp} {a : Addr} {z : Cell} {o : HO} (h : CellOk c w H a z) (g : z ≠ .gone) (e : H a = some o) : plainO o := by
  cases z with
  | lst xs => obtain ⟨vs, q, _⟩ := h; rw [q] at e; cases e; exact plain_lst _
  | dct ks us => obtain ⟨_, q, _⟩ := h; rw [q] at e; cases e; exact plain_dK _
  | dtt ks us => obtain ⟨_, q, _⟩ := h; rw [q] at e; cases e; exact plain_dT _
  | ins n ns us => obtain ⟨_, _, _, _, q, _⟩ := h; rw [q] at e; cases e; exact plain_ins _ _ _
  | lkd ks us => obtain ⟨_, _, q, _⟩ := h; rw [q] at e; cases e; exact plain_frz _ _
  | lkt ks us => obtain ⟨_, _, q, _⟩ := h; rw [q] at e; cases e; exact plain_frz _ _
  | gone => exact absurd rfl g
structure TabOk (c : Ct) (w : Wd) (H : Hp) : Prop where
  tb : ∀ P, lawTab c.K c.mg P → (∃ ps : Array Value, H P = some (.tbl ps) ∧ TriplesOk ps.toList ∧ ∀ (pos : Pos) (cv : Value), codeAmong pos ps.toList = some cv → ∃ b, cv = .ref b ∧ w.F b = some (LamX.CodeO b lamQ)) ∧ w.F P = none ∧ w.P P = none ∧ ∀ r, w.φ r ≠ some P
  nF : ∀ a o, w.F a = some o → ∀ ps, o ≠ .tbl ps
  nP : ∀ a o, w.P a = some o → pinO o
structure SR (c : Ct) (w : Wd) (h : Hd) (H : Hp) : Prop where
  F : ∀ a o, w.F a = some o → H a = some o
  P : ∀ a o, w.P a = some o → H a = some o
  pin : ∀ a o, w.P a = some o → w.F a = none ∧ ∀ r, w.φ r = some a → isFz o = true ∧ ∃ z, h[r]? = some z ∧ isLk z = true
  cell : ∀ r z, h[r]? = some z → z ≠ .gone → ∃ a, w.φ r = some a ∧ w.F a = none ∧ (w.P a).isSome = isLk z ∧ CellOk c w H a z
  inj : ∀ r r' a, w.φ r = some a → w.φ r' = some a → r = r'
  dom : ∀ r a, w.φ r = some a → r < h.length ∧ ∃ o, H a = some o
  tab : TabOk c w H
  ng : ∀ (r : Nat) (a : Addr), h[r]? = some Cell.gone → w.φ r = some a → ∃ o, w.F a = some o ∧ plainO o
/-- no cell that is used up, none that is locked -/
inductive deadC : Cell → Prop
  | gone : deadC .gone
  | lkd (ks us : List D) : deadC (.lkd ks us)
  | lkt (ks us : List D) : deadC (.lkt ks us)
theorem dn {z : Cell} (g : ¬ deadC z) : z ≠ .gone := fun e => g (e ▸ .gone)
theorem dl {z : Cell} (g : ¬ deadC z) : isLk z = false := by
  cases z with
  | lkd ks us => exact absurd (.lkd ks us) g
  | lkt ks us => exact absurd (.lkt ks us) g
  | _ => rfl
theorem noP {o : Option HO} {z : Cell} (e : o.isSome = isLk z) (n : isLk z = false) : o = none := by
  rw [n] at e
  cases o with
  | none => rfl
  | some _ => cases e
/-- something is written that is no table -/
theorem TabOk.upd {c : Ct} {w : Wd} {H : Hp} {a : Addr} (t : TabOk c w H) (n : ∀ P, lawTab c.K c.mg P → P ≠ a) (o : HO) : TabOk c w (upd H a o) :=
  ⟨fun P l => by
    obtain ⟨⟨ps, e, r⟩, q⟩ := t.tb P l
    exact ⟨⟨ps, by rw [upd_ne (n P l)]; exact e, r⟩, q⟩, t.nF, t.nP⟩
theorem TabOk.ne {c : Ct} {w : Wd} {H : Hp} {a : Addr} (t : TabOk c w H) (n : ∀ ps, H a ≠ some (.tbl ps)) : ∀ P, lawTab c.K c.mg P → P ≠ a := fun P l z => by
  obtain ⟨⟨ps, e, _⟩, _⟩ := t.tb P l
  exact n ps (z ▸ e)
def ER (c : Ct) (w : Wd) (ρ : Env) (σ : St) : Prop := ρ.length = σ.length ∧ ∀ (i : Nat) (d : D), ρ[i]? = some (some d) → ∃ v, σ[i]? = some (some v) ∧ VR c w d v
theorem ER.le0 {c : Ct} {w w' : Wd} {ρ : Env} {σ : St} (l : Le0 w w') (h : ER c w ρ σ) : ER c w' ρ σ := ⟨h.1, fun i d e => let ⟨v, q, r⟩ := h.2 i d e; ⟨v, q, r.le0 l⟩⟩
theorem ER.le {c : Ct} {w w' : Wd} {ρ : Env} {σ : St} (l : Le w w') (h : ER c w ρ σ) : ER c w' ρ σ := h.le0 l.toLe0
theorem ER.set {c : Ct} {w : Wd} {ρ : Env} {σ : St} {d : D} {v : V} (h : ER c w ρ σ) (i : Nat) (r : VR c w d v) : ER c w (ρ.set i (some d)) (σ.set i (some v)) := by
  refine ⟨by simp [h.1], fun j x e => ?_⟩
  rw [List.getElem?_set] at e
  split at e
  · rename_i hij
    split at e
    · rename_i hl
      cases e
      refine ⟨v, ?_, r⟩
      rw [hij, List.getElem?_set_self (by rw [← h.1, ← hij]; exact hl)]
    · cases e
  · rename_i hij
    obtain ⟨u, q, z⟩ := h.2 j x e
    exact ⟨u, by rw [List.getElem?_set_ne hij]; exact q, z⟩
def wipeD (ρ : Env) : List Nat → Env
  | [] => ρ
  | v :: vs => (wipeD ρ vs).set v none
theorem wipeD_length (ρ : Env) : ∀ vs : List Nat, (wipeD ρ vs).length = ρ.length
  | [] => rfl
  | v :: vs => by simp [wipeD, wipeD_length ρ vs]
theorem wipeD_some {ρ : Env} {i : Nat} {x : D} : ∀ {vs : List Nat}, (wipeD ρ vs)[i]? = some (some x) → ρ[i]? = some (some x) ∧ i ∉ vs
  | [], h => ⟨h, by simp⟩
  | v :: vs, h => by
    simp only [wipeD] at h
    rw [List.getElem?_set] at h
    split at h
    · split at h <;> cases h
    · rename_i hv
      obtain ⟨a, b⟩ := wipeD_some h
      exact ⟨a, by simp only [List.mem_cons, not_or]; exact ⟨fun e => hv e.symm, b⟩⟩
theorem ER.wipe {c : Ct} {w : Wd} {ρ : Env} {σ : St} (h : ER c w ρ σ) (vs : List Nat) : ER c w (wipeD ρ vs) (wipe σ vs) := by
  refine ⟨by rw [wipeD_length, wipe_length]; exact h.1, fun i d e => ?_⟩
  obtain ⟨a, b⟩ := wipeD_some e
  obtain ⟨v, q, r⟩ := h.2 i d a
  exact ⟨v, by rw [wipe_out b]; exact q, r⟩
/-- an error as it lies -/
def XR (c : Ct) (w : Wd) (x : Xc) (cls : Value) (dx : Option Addr) (H : Hp) : Prop :=
  ∃ C, c.mg x.c = some (.ref C) ∧ cls = .ref C ∧ ((x.ns = [] ∧ dx = none) ∨ x.ns ≠ [] ∧ ∃ d fs, dx = some d ∧ H d = some (.xd fs) ∧ x.ns = fs.map (·.1) ∧ VRs c w x.us (fs.map (·.2)))
def Post {α β : Type} (R : Wd → Hp → α → β → Prop) (c : Ct) (w : Wd) (W : WX) (σ : St) (r : Res α) (Q : β → Hp → Prop) : Prop :=
  match r with
  | .ok d h => ∀ v w' H', Le w w' → R w' H' d v → SR c w' h H' → Q v H'
  | .exc x h => ∀ cls dx w' H', Le w w' → SR c w' h H' → XR c w' x cls dx H' → W cls dx σ H'
  | .bad => False
theorem Post.le {α β : Type} {R : Wd → Hp → α → β → Prop} {c : Ct} {w w' : Wd} {W : WX} {σ : St} {r : Res α} {Q : β → Hp → Prop} (l : Le w w') (h : Post R c w W σ r Q) : Post R c w' W σ r Q := by
  cases r with
  | ok d hd => exact fun v w2 H2 l2 => h v w2 H2 (l.trans l2)
  | exc x hd => exact fun cls dx w2 H2 l2 => h cls dx w2 H2 (l.trans l2)
  | bad => exact h
theorem Post.bind {α β γ δ : Type} {R : Wd → Hp → α → β → Prop} {R2 : Wd → Hp → γ → δ → Prop} {c : Ct} {w : Wd} {W : WX} {σ : St} {r : Res α} {k : α → Hd → Res γ} {Q : δ → Hp → Prop} (h : Post R2 c w W σ (r.bind k) Q) :
    Post R c w W σ r (fun v H1 => ∃ w1 h1 d, Le w w1 ∧ R w1 H1 d v ∧ SR c w1 h1 H1 ∧ Post R2 c w1 W σ (k d h1) Q) := by
  cases r with
  | ok d hd => exact fun v w1 H1 l x s => ⟨w1, hd, d, l, x, s, Post.le l h⟩
  | exc x hd => exact h
  | bad => exact h
theorem Post.mono {α β : Type} {R : Wd → Hp → α → β → Prop} {c : Ct} {w : Wd} {W : WX} {σ : St} {r : Res α} {Q Q' : β → Hp → Prop} (h : Post R c w W σ r Q) (i : ∀ v H, Q v H → Q' v H) : Post R c w W σ r Q' := by
  cases r with
  | ok d hd => exact fun v w2 H2 l x s => i _ _ (h v w2 H2 l x s)
  | exc x hd => exact h
  | bad => exact h
abbrev RV (c : Ct) : Wd → Hp → D → V → Prop := fun w _ d v => VR c w d v
abbrev RVs (c : Ct) : Wd → Hp → List D → List V → Prop := fun w _ d v => VRs c w d v
abbrev RB : Wd → Hp → Bool → Bool → Prop := fun _ _ a b => a = b
abbrev ME := Env → Hd → Res D
abbrev MT := Env → Hd → Res Bool
abbrev MA := Env → Hd → Res (List D)
def tP {α β : Type} (R : Wd → Hp → α → β → Prop) (c : Ct) (W : WX) (m : Env → Hd → Res α) : St → Hp → (β → Hp → Prop) → Prop := fun σ H Q => ∃ w ρ h, ER c w ρ σ ∧ SR c w h H ∧ Post R c w W σ (m ρ h) Q
abbrev tE (c : Ct) (W : WX) (m : ME) : TE := tP (RV c) c W m
abbrev tT (c : Ct) (W : WX) (m : MT) : TT := tP RB c W m
abbrev tAr (c : Ct) (W : WX) (m : MA) : TA := tP (RVs c) c W m
/-- the judgements -/
abbrev Cx.ct (X : Cx) : Ct := ⟨X.K, X.mg⟩
def SE (X : Cx) (W : WX) (e : Expr) (m : ME) : Prop := PE X e (tE (Cx.ct X) W m)
def ST (X : Cx) (W : WX) (e : Expr) (m : MT) : Prop := PT X e (tT (Cx.ct X) W m)
def SW (X : Cx) (W : WX) (e : Expr) (m : MT) : Prop := PW X e (tT (Cx.ct X) W m)
def SA (X : Cx) (W : WX) (es : List Expr) (m : MA) : Prop := PA X es (tAr (Cx.ct X) W m)
theorem PE.imp {X : Cx} {e : Expr} {t t' : TE} (h : PE X e t) (i : ∀ σ H Q, t' σ H Q → t σ H Q) : PE X e t' := ⟨fun pins s σ H Q I q => h.run pins s σ H Q I (i _ _ _ q)⟩
theorem PT.imp {X : Cx} {e : Expr} {t t' : TT} (h : PT X e t) (i : ∀ σ H Q, t' σ H Q → t σ H Q) : PT X e t' := ⟨fun pins s σ H Q I q => h.run pins s σ H Q I (i _ _ _ q)⟩
theorem PW.imp {X : Cx} {e : Expr} {t t' : TT} (h : PW X e t) (i : ∀ σ H Q, t' σ H Q → t σ H Q) : PW X e t' := ⟨fun wh pins s σ H Q I q => h.run wh pins s σ H Q I (i _ _ _ q)⟩
theorem PA.imp {X : Cx} {e : List Expr} {t t' : TA} (h : PA X e t) (i : ∀ σ H Q, t' σ H Q → t σ H Q) : PA X e t' := ⟨fun pos pins s σ H Q I q => h.run pos pins s σ H Q I (i _ _ _ q)⟩
theorem PS.imp {X : Cx} {e : Stmt} {t t' : TS} (h : PS X e t) (i : ∀ D σ H, t' D σ H → t D σ H) : PS X e t' := ⟨fun pins s σ H D I q => h.run pins s σ H D I (i _ _ _ q)⟩
theorem PSs.imp {X : Cx} {e : List Stmt} {t t' : TS} (h : PSs X e t) (i : ∀ D σ H, t' D σ H → t D σ H) : PSs X e t' := ⟨fun pins s σ H D I q => h.run pins s σ H D I (i _ _ _ q)⟩
/-- two in a row -/
theorem tP.bind {α β γ δ : Type} {R : Wd → Hp → α → β → Prop} {R2 : Wd → Hp → γ → δ → Prop} {c : Ct} {W : WX} {m : Env → Hd → Res α} {k : Env → α → Hd → Res γ} {σ : St} {H : Hp} {Q : δ → Hp → Prop}
    (h : tP R2 c W (fun ρ h => (m ρ h).bind (k ρ)) σ H Q) : tP R c W m σ H (fun v H1 => ∃ w1 ρ h1 d, ER c w1 ρ σ ∧ SR c w1 h1 H1 ∧ R w1 H1 d v ∧ Post R2 c w1 W σ (k ρ d h1) Q) := by
  obtain ⟨w, ρ, hd, e, s, p⟩ := h
  exact ⟨w, ρ, hd, e, s, (Post.bind p).mono fun v H1 ⟨w1, h1, d, l, r, s1, p1⟩ => ⟨w1, ρ, h1, d, e.le l, s1, r, p1⟩⟩
theorem tP.mono {α β : Type} {R : Wd → Hp → α → β → Prop} {c : Ct} {W : WX} {m : Env → Hd → Res α} {σ : St} {H : Hp} {Q Q' : β → Hp → Prop} (h : tP R c W m σ H Q) (i : ∀ v H, Q v H → Q' v H) : tP R c W m σ H Q' := by
  obtain ⟨w, ρ, hd, e, s, p⟩ := h
  exact ⟨w, ρ, hd, e, s, p.mono i⟩
theorem Post.ret {α β : Type} {R : Wd → Hp → α → β → Prop} {c : Ct} {w : Wd} {W : WX} {σ : St} {d : α} {h : Hd} {Q : β → Hp → Prop} {v : β} {H : Hp} (p : Post R c w W σ (.ok d h) Q) (r : R w H d v) (s : SR c w h H) : Q v H := p v w H (.refl w) r s
inductive O where
  | val (d : D) | new (z : Cell)
structure FreshAt (w : Wd) (a : Addr) : Prop where
  F : w.F a = none
  P : w.P a = none
  φ : ∀ r, w.φ r ≠ some a
def RO (c : Ct) : Wd → Hp → O → V → Prop := fun w H o v => match o with
  | .val d => VR c w d v
  | .new z => ¬ deadC z ∧ ∃ a, v = .ref a ∧ FreshAt w a ∧ CellOk c w H a z
def fzC : Cell → D
  | .lst xs => .lst xs
  | .dct ks us => .dct ks us
  | .dtt ks us => .dtt ks us
  | .ins n ns us => .ins n ns us
  | .lkd ks us => .dct ks us
  | .lkt ks us => .dtt ks us
  | .gone => .non
def O.fz : O → D
  | .val d => d
  | .new z => fzC z
theorem CellOk.some {c : Ct} {w : Wd} {H : Hp} {a : Addr} {z : Cell} (h : CellOk c w H a z) (g : z ≠ .gone) : ∃ o, H a = some o := by
  cases z with
  | lst xs => obtain ⟨vs, q, _⟩ := h; exact ⟨_, q⟩
  | dct ks us => obtain ⟨_, q, _⟩ := h; exact ⟨_, q⟩
  | dtt ks us => obtain ⟨_, q, _⟩ := h; exact ⟨_, q⟩
  | ins n ns us => obtain ⟨_, _, _, _, q, _⟩ := h; exact ⟨_, q⟩
  | lkd ks us => obtain ⟨_, _, q, _⟩ := h; exact ⟨_, q⟩
  | lkt ks us => obtain ⟨_, _, q, _⟩ := h; exact ⟨_, q⟩
  | gone => exact absurd rfl g
/-- a dict is frozen as it lies -/
def isDc : Cell → Bool
  | .dct _ _ => true
  | .dtt _ _ => true
  | _ => false
def fzO (z : Cell) (od : Obj) (o : HO) : HO := if isDc z then .frz od o else o
theorem VR_fz {c : Ct} {w w' : Wd} {H : Hp} {a : Addr} {z : Cell} {o : HO} {od : Obj} (h : CellOk c w H a z) (g : ¬ deadC z) (e : H a = some o) (l : Le w w') (f : w'.F a = some (fzO z od o)) : VR c w' (fzC z) (.ref a) := by
  cases z with
  | lst xs =>
    obtain ⟨vs, q, r⟩ := h
    rw [q] at e; cases e
    simp only [fzC, VR]; exact ⟨a, vs, rfl, f, r.le l⟩
  | dct ks us =>
    obtain ⟨kvs, q, k, r⟩ := h
    rw [q] at e; cases e
    simp only [fzC, VR]; exact ⟨a, od, kvs, rfl, f, k, r.le l⟩
  | dtt ks us =>
    obtain ⟨kvs, q, k, r⟩ := h
    rw [q] at e; cases e
    simp only [fzC, VR]; exact ⟨a, od, kvs, rfl, f, k, r.le l⟩
  | ins n ns us =>
    obtain ⟨C, dx, fs, m, q, k, r, na⟩ := h
    rw [q] at e; cases e
    simp only [fzC, VR]; exact ⟨a, C, dx, fs, rfl, m, f, k, r.le l, na⟩
  | lkd ks us => exact absurd (.lkd ks us) g
  | lkt ks us => exact absurd (.lkt ks us) g
  | gone => exact absurd .gone g
def Wd.fzAt (w : Wd) (a : Addr) (o : HO) : Wd := { w with F := upd w.F a o }
def Wd.ownAt (w : Wd) (n : Nat) (a : Addr) : Wd := { w with φ := fun r => if r = n then some a else w.φ r }
section
variable {c : Ct} {w : Wd} {h : Hd} {H : Hp} {a : Addr} {z : Cell} {o : HO}
theorem FreshAt.of (s : SR c w h H) (e : H a = none) : FreshAt w a := by
  refine ⟨?_, ?_, fun r q => ?_⟩
  · cases q : w.F a with
    | none => rfl
    | some o => rw [s.F a o q] at e; cases e
  · cases q : w.P a with
    | none => rfl
    | some o => rw [s.P a o q] at e; cases e
  · obtain ⟨_, o, z⟩ := s.dom r a q
    rw [e] at z; cases z
/-- something new is laid, not yet ours -/
theorem SR.laid (s : SR c w h H) (e : H a = none) (o : HO) : SR c w h (upd H a o) where
  F := fun b u q => by rw [upd_ne (ne_of_none (s.F b u q) e)]; exact s.F b u q
  P := fun b u q => by rw [upd_ne (ne_of_none (s.P b u q) e)]; exact s.P b u q
  pin := s.pin
  cell := fun r z q g => by
    obtain ⟨b, q1, q2, q3, q4⟩ := s.cell r z q g
    obtain ⟨u, q5⟩ := q4.some g
    exact ⟨b, q1, q2, q3, q4.le (.refl w) (upd_ne (ne_of_none q5 e))⟩
  inj := s.inj
  dom := fun r b q => by
    obtain ⟨l, u, q1⟩ := s.dom r b q
    exact ⟨l, u, by rw [upd_ne (ne_of_none q1 e)]; exact q1⟩
  tab := s.tab.upd (s.tab.ne fun ps z => by rw [e] at z; cases z) o
  ng := s.ng
theorem SR.fz (s : SR c w h H) (f : FreshAt w a) (e : H a = some o) (n : plainO o) : Le w (w.fzAt a o) ∧ SR c (w.fzAt a o) h H := by
  have l : Le w (w.fzAt a o) := ⟨⟨fun b u q => by
    show upd w.F a o b = some u
    rw [upd_ne (ne_of_none q f.F)]; exact q, fun _ _ q => q⟩, rfl⟩
  refine ⟨l, ⟨fun b u q => ?_, s.P, fun b u q => ⟨?_, (s.pin b u q).2⟩, fun r z q g => ?_, s.inj, s.dom, ?_, fun r b q e => let ⟨u, q1, p⟩ := s.ng r b q e; ⟨u, l.F _ _ q1, p⟩⟩⟩
  · by_cases hb : b = a
    · subst hb
      have q' : upd w.F b o b = some u := q
      rw [upd_same] at q'; cases q'; exact e
    · have q' : upd w.F a o b = some u := q
      rw [upd_ne hb] at q'; exact s.F b u q'
  · show upd w.F a o b = none
    have q' : w.P b = some u := q
    rw [upd_ne (by rintro rfl; rw [f.P] at q'; cases q')]; exact (s.pin b u q).1
  · obtain ⟨b, q1, q2, q3, q4⟩ := s.cell r z q g
    refine ⟨b, q1, ?_, q3, q4.le l rfl⟩
    show upd w.F a o b = none
    rw [upd_ne (by rintro rfl; exact f.φ r q1)]; exact q2
  · have ne := s.tab.ne (a := a) fun ps z => n.1 ps (Option.some.inj (e.symm.trans z))
    refine ⟨fun P l1 => ?_, fun b u q => ?_, s.tab.nP⟩
    · obtain ⟨⟨ps, e1, e2, e3⟩, q1, q2, q3⟩ := s.tab.tb P l1
      refine ⟨⟨ps, e1, e2, fun pos cv k => ?_⟩, by show upd w.F a o P = none; rw [upd_ne (ne P l1)]; exact q1, q2, q3⟩
      obtain ⟨b, e4, e5⟩ := e3 pos cv k
      exact ⟨b, e4, l.F _ _ e5⟩
    · have q' : upd w.F a o b = some u := q
      by_cases hb : b = a
      · subst hb; rw [upd_same] at q'; cases q'; exact n.1
      · rw [upd_ne hb] at q'; exact s.tab.nF b u q'
theorem SR.own (s : SR c w h H) (f : FreshAt w a) (g : ¬ deadC z) (k : CellOk c w H a z) : Le w (w.ownAt h.length a) ∧ SR c (w.ownAt h.length a) (h ++ [z]) H ∧ VR c (w.ownAt h.length a) (.ref h.length) (.ref a) := by
  have l : Le w (w.ownAt h.length a) := ⟨⟨fun b u q => q, fun r b q => by
    show (if r = h.length then some a else w.φ r) = some b
    rw [if_neg (Nat.ne_of_lt (s.dom r b q).1)]; exact q⟩, rfl⟩
  refine ⟨l, ⟨s.F, s.P, fun b u q => ⟨(s.pin b u q).1, fun r z => ?_⟩, fun r y q gy => ?_, fun r r' b q q' => ?_, fun r b q => ?_, ?_, fun r b q e => ?_⟩, by simp only [VR]; exact ⟨a, rfl, by show (if h.length = h.length then some a else _) = _; rw [if_pos rfl]⟩⟩
  · have z' : (if r = h.length then some a else w.φ r) = some b := z
    have q' : w.P b = some u := q
    split at z'
    · cases z'; rw [f.P] at q'; cases q'
    · obtain ⟨e0, y, e1, e2⟩ := (s.pin b u q).2 r z'
      exact ⟨e0, y, by rw [List.getElem?_append_left (List.getElem?_eq_some_iff.mp e1).1]; exact e1, e2⟩
  · by_cases hr : r < h.length
    · rw [List.getElem?_append_left hr] at q
      obtain ⟨b, q1, q2, q3, q4⟩ := s.cell r y q gy
      exact ⟨b, l.φ _ _ q1, q2, q3, q4.le l rfl⟩
    · have hr' : r = h.length := by
        have := (List.getElem?_eq_some_iff.mp q).1
        simp at this; omega
      subst hr'
      rw [List.getElem?_append_right (Nat.le_refl _)] at q
      simp at q; subst q
      exact ⟨a, by show (if h.length = h.length then some a else _) = _; rw [if_pos rfl], f.F, by show (w.P a).isSome = _; rw [f.P, dl g]; rfl, k.le l rfl⟩
  · have q1 : (if r = h.length then some a else w.φ r) = some b := q
    have q2 : (if r' = h.length then some a else w.φ r') = some b := q'
    split at q1
    · cases q1
      split at q2
      · rename_i e1 e2; exact e1.trans e2.symm
      · exact absurd q2 (f.φ r')
    · split at q2
      · cases q2; exact absurd q1 (f.φ r)
      · exact s.inj r r' b q1 q2
  · have q1 : (if r = h.length then some a else w.φ r) = some b := q
    split at q1
    · rename_i e; subst e; cases q1
      exact ⟨by simp, k.some (dn g)⟩
    · obtain ⟨x, y⟩ := s.dom r b q1
      exact ⟨by simp; omega, y⟩
  · obtain ⟨o', eo⟩ := k.some (dn g)
    have ne := s.tab.ne (a := a) fun ps z => (k.plain (dn g) eo).1 ps (Option.some.inj (eo.symm.trans z))
    refine ⟨fun P l1 => ?_, s.tab.nF, s.tab.nP⟩
    obtain ⟨e1, q1, q2, q3⟩ := s.tab.tb P l1
    refine ⟨e1, q1, q2, fun r z => ?_⟩
    have z' : (if r = h.length then some a else w.φ r) = some P := z
    split at z'
    · cases z'; exact ne _ l1 rfl
    · exact q3 r z'
  · by_cases hr : r < h.length
    · rw [List.getElem?_append_left hr] at q
      have e' : (if r = h.length then some a else w.φ r) = some b := e
      rw [if_neg (by omega)] at e'
      exact s.ng r b q e'
    · rw [List.getElem?_append_right (by omega)] at q
      cases q1 : r - h.length with
      | zero => rw [q1] at q; simp at q; exact absurd q (dn g)
      | succ j => rw [q1] at q; simp at q
theorem SR.write {r : Nat} {y : Cell} (s : SR c w h H) (q : h[r]? = some z) (g : ¬ deadC z) (e : w.φ r = some a) (k : CellOk c w (upd H a o) a y) (gy : ¬ deadC y) : SR c w (h.set r y) (upd H a o) := by
  obtain ⟨b, q1, q2, q3, q4⟩ := s.cell r z q (dn g)
  rw [e] at q1; cases q1
  have q3' := noP q3 (dl g)
  refine ⟨fun b u q => ?_, fun b u q => ?_, fun b u q => ⟨(s.pin b u q).1, fun r' z' => ?_⟩, fun r' y' q' g' => ?_, s.inj, fun r' b q' => ?_, s.tab.upd (fun P l z => (s.tab.tb P l).2.2.2 r (z ▸ e)) o, fun r' b' q' e' => ?_⟩
  · rw [upd_ne (by rintro rfl; rw [q2] at q; cases q)]; exact s.F b u q
  · rw [upd_ne (by rintro rfl; rw [q3'] at q; cases q)]; exact s.P b u q
  · obtain ⟨e0, x, e1, e2⟩ := (s.pin b u q).2 r' z'
    refine ⟨e0, x, ?_, e2⟩
    rw [List.getElem?_set_ne]
    · exact e1
    · rintro rfl
      rw [‹h[r]? = some z›] at e1
      cases e1
      rw [dl g] at e2; cases e2
  · rw [List.getElem?_set] at q'
    split at q'
    · rename_i hr; subst hr
      split at q'
      · cases q'; exact ⟨a, e, q2, by rw [q3', dl gy]; rfl, k⟩
      · cases q'
    · rename_i hr
      obtain ⟨b, p1, p2, p3, p4⟩ := s.cell r' y' q' g'
      exact ⟨b, p1, p2, p3, p4.le (.refl w) (upd_ne (by rintro rfl; exact hr (s.inj r r' _ e p1)))⟩
  · obtain ⟨x, u, y⟩ := s.dom r' b q'
    refine ⟨by simpa using x, ?_⟩
    by_cases hb : b = a
    · subst hb; exact ⟨o, upd_same⟩
    · exact ⟨u, by rw [upd_ne hb]; exact y⟩
  · rw [List.getElem?_set] at q'
    split at q'
    · split at q'
      · cases q'; exact absurd .gone gy
      · cases q'
    · exact s.ng r' b' q' e'
theorem pinS {w : Wd} {h : Hd} {z y : Cell} {b : Addr} {t : Bool} (r : Nat) (n : isLk z = false) (q : h[r]? = some z) (p : ∀ r', w.φ r' = some b → t = true ∧ ∃ x, h[r']? = some x ∧ isLk x = true) : ∀ r', w.φ r' = some b → t = true ∧ ∃ x, (h.set r y)[r']? = some x ∧ isLk x = true := fun r' e => by
  obtain ⟨e0, x, e1, e2⟩ := p r' e
  refine ⟨e0, x, ?_, e2⟩
  rw [List.getElem?_set_ne]
  · exact e1
  · rintro rfl
    rw [q] at e1
    cases e1
    rw [n] at e2; cases e2
/-- an own cell freezes; u: what is then told of it -/
theorem SR.freeze {r : Nat} {u : HO} (s : SR c w h H) (q : h[r]? = some z) (g : ¬ deadC z) (e : w.φ r = some a) (eo : H a = some o) (n : plainO o) : Le w (w.fzAt a o) ∧ SR c (w.fzAt a o) (h.set r .gone) H := by
  obtain ⟨a', q1, q2, q3s, q4⟩ := s.cell r z q (dn g)
  rw [e] at q1; cases q1
  have q3 := noP q3s (dl g)
  have l : Le w (w.fzAt a o) := ⟨⟨fun b u k => by
    show upd w.F a o b = some u
    rw [upd_ne (ne_of_none k q2)]; exact k, fun _ _ k => k⟩, rfl⟩
  refine ⟨l, ⟨fun b u k => ?_, s.P, fun b u k => ⟨?_, pinS r (dl g) q (s.pin b u k).2⟩, fun r' y k gy => ?_, s.inj, fun r' b k => ?_, ?_, fun r' b k e' => ?_⟩⟩
  · by_cases hb : b = a
    · subst hb
      have k' : upd w.F b o b = some u := k
      rw [upd_same] at k'; cases k'; exact eo
    · have k' : upd w.F a o b = some u := k
      rw [upd_ne hb] at k'; exact s.F b u k'
  · show upd w.F a o b = none
    have k' : w.P b = some u := k
    rw [upd_ne (by rintro rfl; rw [q3] at k'; cases k')]; exact (s.pin b u k).1
  · rw [List.getElem?_set] at k
    split at k
    · split at k
      · cases k; exact absurd rfl gy
      · cases k
    · rename_i hr
      obtain ⟨b, p1, p2, p3, p4⟩ := s.cell r' y k gy
      refine ⟨b, p1, ?_, p3, p4.le l rfl⟩
      show upd w.F a o b = none
      rw [upd_ne (by rintro rfl; exact hr (s.inj r r' _ e p1))]; exact p2
  · obtain ⟨x, y⟩ := s.dom r' b k
    exact ⟨by simpa using x, y⟩
  · have ne := s.tab.ne (a := a) fun ps z => n.1 ps (Option.some.inj (eo.symm.trans z))
    refine ⟨fun P l1 => ?_, fun b u k => ?_, s.tab.nP⟩
    · obtain ⟨⟨ps, e1, e2, e3⟩, q1, q2, q3⟩ := s.tab.tb P l1
      refine ⟨⟨ps, e1, e2, fun pos cv k => ?_⟩, by show upd w.F a o P = none; rw [upd_ne (ne P l1)]; exact q1, q2, q3⟩
      obtain ⟨b, e4, e5⟩ := e3 pos cv k
      exact ⟨b, e4, l.F _ _ e5⟩
    · have k' : upd w.F a o b = some u := k
      by_cases hb : b = a
      · subst hb; rw [upd_same] at k'; cases k'; exact n.1
      · rw [upd_ne hb] at k'; exact s.tab.nF b u k'
  · rw [List.getElem?_set] at k
    split at k
    · rename_i hr
      subst hr
      have e2 : w.φ r = some b := e'
      rw [e] at e2; cases e2
      exact ⟨o, upd_same, n⟩
    · obtain ⟨u, q1, p⟩ := s.ng r' b k e'
      exact ⟨u, l.F _ _ q1, p⟩
/-- an own cell freezes, told anew: u stands there now -/
theorem SR.freezeAs {r : Nat} {u : HO} (s : SR c w h H) (q : h[r]? = some z) (g : ¬ deadC z) (e : w.φ r = some a) (eo : H a = some o) (n : plainO u) : Le w (w.fzAt a u) ∧ SR c (w.fzAt a u) (h.set r .gone) (upd H a u) := by
  obtain ⟨a', q1, q2, q3s, q4⟩ := s.cell r z q (dn g)
  rw [e] at q1; cases q1
  have q3 := noP q3s (dl g)
  have no := q4.plain (dn g) eo
  have l : Le w (w.fzAt a u) := ⟨⟨fun b v k => by
    show upd w.F a u b = some v
    rw [upd_ne (ne_of_none k q2)]; exact k, fun _ _ k => k⟩, rfl⟩
  refine ⟨l, ⟨fun b v k => ?_, fun b v k => ?_, fun b v k => ⟨?_, pinS r (dl g) q (s.pin b v k).2⟩, fun r' y k gy => ?_, s.inj, fun r' b k => ?_, ?_, fun r' b k e' => ?_⟩⟩
  · by_cases hb : b = a
    · subst hb
      have k' : upd w.F b u b = some v := k
      rw [upd_same] at k' ⊢; exact k'
    · have k' : upd w.F a u b = some v := k
      rw [upd_ne hb] at k' ⊢; exact s.F b v k'
  · rw [upd_ne (by rintro rfl; have k' : w.P b = some v := k; rw [q3] at k'; cases k')]; exact s.P b v k
  · show upd w.F a u b = none
    have k' : w.P b = some v := k
    rw [upd_ne (by rintro rfl; rw [q3] at k'; cases k')]; exact (s.pin b v k).1
  · rw [List.getElem?_set] at k
    split at k
    · split at k
      · cases k; exact absurd rfl gy
      · cases k
    · rename_i hr
      obtain ⟨b, p1, p2, p3, p4⟩ := s.cell r' y k gy
      have hb : b ≠ a := by rintro rfl; exact hr (s.inj r r' _ e p1)
      refine ⟨b, p1, ?_, p3, p4.le l (upd_ne hb)⟩
      show upd w.F a u b = none
      rw [upd_ne hb]; exact p2
  · obtain ⟨x, v, y⟩ := s.dom r' b k
    refine ⟨by simpa using x, ?_⟩
    by_cases hb : b = a
    · subst hb; exact ⟨u, upd_same⟩
    · exact ⟨v, by rw [upd_ne hb]; exact y⟩
  · have ne := s.tab.ne (a := a) fun ps z => no.1 ps (Option.some.inj (eo.symm.trans z))
    refine ⟨fun P l1 => ?_, fun b v k => ?_, s.tab.nP⟩
    · obtain ⟨⟨ps, e1, e2, e3⟩, q1, q2, q3⟩ := s.tab.tb P l1
      refine ⟨⟨ps, by rw [upd_ne (ne P l1)]; exact e1, e2, fun pos cv k => ?_⟩, by show upd w.F a u P = none; rw [upd_ne (ne P l1)]; exact q1, q2, q3⟩
      obtain ⟨b, e4, e5⟩ := e3 pos cv k
      exact ⟨b, e4, l.F _ _ e5⟩
    · have k' : upd w.F a u b = some v := k
      by_cases hb : b = a
      · subst hb; rw [upd_same] at k'; cases k'; exact n.1
      · rw [upd_ne hb] at k'; exact s.tab.nF b v k'
  · rw [List.getElem?_set] at k
    split at k
    · rename_i hr
      subst hr
      have e2 : w.φ r = some b := e'
      rw [e] at e2; cases e2
      exact ⟨u, upd_same, n⟩
    · obtain ⟨v, q1, p⟩ := s.ng r' b k e'
      exact ⟨v, l.F _ _ q1, p⟩
theorem SR.over (s : SR c w h H) (f : FreshAt w a) (n : ∀ ps, H a ≠ some (.tbl ps)) (o : HO) : SR c w h (upd H a o) where
  tab := s.tab.upd (s.tab.ne n) o
  ng := s.ng
  F := fun b u q => by rw [upd_ne (by rintro rfl; rw [f.F] at q; cases q)]; exact s.F b u q
  P := fun b u q => by rw [upd_ne (by rintro rfl; rw [f.P] at q; cases q)]; exact s.P b u q
  pin := s.pin
  cell := fun r z q g => by
    obtain ⟨b, q1, q2, q3, q4⟩ := s.cell r z q g
    exact ⟨b, q1, q2, q3, q4.le (.refl w) (upd_ne (by rintro rfl; exact f.φ r q1))⟩
  inj := s.inj
  dom := fun r b q => by
    obtain ⟨l, u, q1⟩ := s.dom r b q
    exact ⟨l, u, by rw [upd_ne (by rintro rfl; exact f.φ r q)]; exact q1⟩
end
def SO (X : Cx) (W : WX) (e : Expr) (m : Env → Hd → Res O) : Prop := PE X e (tP (RO (Cx.ct X)) (Cx.ct X) W m)
def mFz (m : Env → Hd → Res O) : ME := fun ρ h => (m ρ h).bind fun o h => .ok o.fz h
def ownO : O → Hd → Res D
  | .val d, h => .ok d h
  | .new z, h => .ok (.ref h.length) (h ++ [z])
def mOwn (m : Env → Hd → Res O) : ME := fun ρ h => (m ρ h).bind ownO
section
variable {X : Cx} {W : WX} {e a b c : Expr} {m : Env → Hd → Res O} {ma mb mc : ME} {pos : Pos}
/-- a dict may be locked for good behind an expression -/
def tLockP (t : TE) : TE := fun σ H Q => t σ H fun v H1 => Q v H1 ∨ ∃ d u, H1 d = some u ∧ Mut (some u) ∧ ∀ od, Q v (upd H1 d (.frz od u))
theorem pe_lockP {t : TE} (h : PE X e t) : PE X e (tLockP t) := ⟨fun pins s σ H Q I hw => thn (h.run pins s σ H _ I hw) fun v s1 ⟨x, H1, I1, r, q⟩ => by
  rcases q with q | ⟨d, u, hd, mu, q⟩
  · exact ⟨x, H1, I1, r, q⟩
  · obtain ⟨od, I2⟩ := I1.lock hd mu
    exact ⟨x, _, I2, r, q od⟩⟩
theorem Post.lockP {c : Ct} {w : Wd} {h : Hd} {H1 : Hp} {z : Cell} {a : Addr} {σ : L2.St} {Q : VK} (s : SR c w h H1) (f : FreshAt w a) (g : ¬ deadC z) (k : CellOk c w H1 a z)
    (p : Post (RV c) c w W σ (.ok (fzC z) h) Q) : Q (.ref a) H1 ∨ ∃ d u, H1 d = some u ∧ Mut (some u) ∧ ∀ od, Q (.ref a) (upd H1 d (.frz od u)) := by
  obtain ⟨o, eo⟩ := k.some (dn g)
  have pl := k.plain (dn g) eo
  by_cases hd : isDc z = true
  · have nt : ∀ ps, H1 a ≠ some (.tbl ps) := fun ps z => by rw [eo] at z; cases z; exact pl.1 ps rfl
    refine .inr ⟨a, o, eo, ?_, fun od => ?_⟩
    · cases z with
      | dct ks us => obtain ⟨kvs, q, _⟩ := k; rw [q] at eo; cases eo; trivial
      | dtt ks us => obtain ⟨kvs, q, _⟩ := k; rw [q] at eo; cases eo; trivial
      | _ => cases hd
    · have s1 := s.over f nt (.frz od o)
      obtain ⟨l, s'⟩ := s1.fz f upd_same (plain_frz od o)
      exact p _ _ _ l (VR_fz (od := od) k g eo l (by unfold fzO; rw [if_pos hd]; exact upd_same)) s'
  · obtain ⟨l, s'⟩ := s.fz f eo pl
    exact .inl (p _ _ _ l (VR_fz (od := ⟨.none, none, .fields #[], #[]⟩) k g eo l (by unfold fzO; rw [if_neg hd]; exact upd_same)) s')
theorem SO.fz (h : SO X W e m) : SE X W e (mFz m) := PE.imp (pe_lockP h) fun σ H Q q => by
  refine (tP.bind q).mono fun v H1 ⟨w1, ρ, h1, o, e, s, r, p⟩ => ?_
  cases o with
  | val d => exact .inl (p.ret r s)
  | new z =>
    obtain ⟨g, a, rfl, f, k⟩ := r
    exact Post.lockP s f g k p
theorem SO.own (h : SO X W e m) : SE X W e (mOwn m) := PE.imp h fun σ H Q q => by
  refine (tP.bind q).mono fun v H1 ⟨w1, ρ, h1, o, e, s, r, p⟩ => ?_
  cases o with
  | val d => exact p.ret r s
  | new z =>
    obtain ⟨g, a, rfl, f, k⟩ := r
    obtain ⟨l, s', r'⟩ := s.own f g k
    exact p _ _ _ l r' s'
def mVar (i : Nat) : ME := fun ρ h => match ρ[i]? with
  | some (some d) => .ok d h
  | _ => .bad
def mC (d : D) : ME := fun _ h => .ok d h
theorem e_var (i : Nat) {x : Str} (hN : X.N[i]? = some x := by rfl) (hv : Vis X.env.scope x := by first | exact Or.inl rfl | exact Or.inr (Or.inl rfl) | exact Or.inr (Or.inr rfl)) (hd : (x == ("__debug__" : Str)) = false := by decide)
    (hcd : (x == ("__classdict__" : Str)) = false := by decide) : SE X W (.Name x pos) (mVar i) := PE.imp (pe_var hN hv hd hcd) fun σ H Q ⟨w, ρ, h, e, s, p⟩ => by
  unfold mVar at p
  split at p
  · rename_i d q
    obtain ⟨v, q1, r⟩ := e.2 i d q
    exact ⟨v, q1, p.ret r s⟩
  · exact p.elim
theorem e_C {e : Expr} {v : V} {d : D} (h : PE X e (tC v)) (r : ∀ w, VR (Cx.ct X) w d v) : SE X W e (mC d) := PE.imp h fun σ H Q ⟨w, ρ, hd, e, s, p⟩ => p.ret (r w) s
theorem e_int {i j} : SE X W (.Constant (.int i) j pos) (mC (.int i)) := e_C pe_int fun w => by simp only [VR]
theorem e_bl {i j} : SE X W (.Constant (.bool i) j pos) (mC (.bl i)) := e_C pe_bl fun w => by simp only [VR]
theorem e_non {j} : SE X W (.Constant .none j pos) (mC .non) := e_C pe_non fun w => by simp only [VR]
theorem e_str {i j} : SE X W (.Constant (.str i) j pos) (mC (.str i)) := e_C pe_str fun w => by simp only [VR]
/-- a module's constant -/
theorem e_glob {x : Str} {v : V} {u : Value} {d : D} (hm : X.mg x = some u) (r : RelV v u) (rv : ∀ w, VR (Cx.ct X) w d v) (hg : Gl X x := by rfl) (hd : (x == ("__debug__" : Str)) = false := by decide) : SE X W (.Name x pos) (mC d) := e_C (pe_glob hg hm r hd) rv
def OpS (c : Ct) (r : R2) (f : D → D → Hd → Res O) : Prop := ∀ {w : Wd} {W : WX} {σ : L2.St} {h : Hd} {H : Hp} {x y : V} {dx dy : D} {Q : VK}, SR c w h H → VR c w dx x → VR c w dy y → Post (RO c) c w W σ (f dx dy h) Q → r x y H Q
def mBin (f : D → D → Hd → Res O) (ma mb : ME) : Env → Hd → Res O := fun ρ h => (ma ρ h).bind fun x h => (mb ρ h).bind fun y h => f x y h
theorem bin_rd {ct : Ct} {r : R2} {f : D → D → Hd → Res O} (hs : OpS ct r f) {σ : L2.St} {H : Hp} {Q : VK} (q : tP (RO ct) ct W (mBin f ma mb) σ H Q) : tOp r (tE ct W ma) (tE ct W mb) σ H Q := by
  refine (tP.bind q).mono fun v H1 ⟨w1, ρ, h1, d, e1, s1, r1, p1⟩ => ?_
  refine ⟨w1, ρ, h1, e1, s1, (Post.bind p1).mono fun u H2 ⟨w2, h2, d2, l2, r2, s2, p2⟩ => ?_⟩
  exact hs s2 (r1.le l2) r2 p2
theorem e_bin {op : Operator} {r : R2} {f : D → D → Hd → Res O} (ho : OpR X (binaryOp op) r) (hs : OpS (Cx.ct X) r f) (ha : SE X W a ma) (hb : SE X W b mb) : SO X W (.BinOp a op b pos) (mBin f ma mb) :=
  PE.imp (pe_op ho ha hb) fun σ H Q q => bin_rd hs q
def OpB (c : Ct) (r : R2) (f : D → D → Hd → Res Bool) : Prop := ∀ {w : Wd} {W : WX} {σ : L2.St} {h : Hd} {H : Hp} {x y : V} {dx dy : D} {Q : Bool → Hp → Prop}, SR c w h H → VR c w dx x → VR c w dy y → Post RB c w W σ (f dx dy h) Q → r x y H fun v H' => ∃ b, v = .bl b ∧ Q b H'
def mCmp (f : D → D → Hd → Res Bool) (ma mb : ME) : MT := fun ρ h => (ma ρ h).bind fun x h => (mb ρ h).bind fun y h => f x y h
def mB (m : MT) : ME := fun ρ h => (m ρ h).bind fun b h => .ok (.bl b) h
theorem e_cmp {op : CmpOp} {r : R2} {f : D → D → Hd → Res Bool} (mono : ∀ x y H (Q Q' : VK), (∀ v H, Q v H → Q' v H) → r x y H Q → r x y H Q') (ho : OpR X (compareOp op) r) (hs : OpB (Cx.ct X) r f) (ha : SE X W a ma) (hb : SE X W b mb) (hm : behindInMarks op b = false) : SE X W (.Compare a [op] [b] pos) (mB (mCmp f ma mb)) :=
  PE.imp (pe_cmpR ho ha hb hm) fun σ H Q q => by
    obtain ⟨w, ρ, hd, e, s, p⟩ := q
    refine ⟨w, ρ, hd, e, s, ?_⟩
    have p' : Post RB (Cx.ct X) w W σ (mCmp f ma mb ρ hd) (fun b H1 => Q (.bl b) H1) := (Post.bind (R := RB) p).mono fun b H1 ⟨w1, h1, d, l, r, s1, p1⟩ => by
      cases r; exact p1.ret (by simp only [VR]) s1
    refine (Post.bind p').mono fun v H1 ⟨w1, h1, d, l1, r1, s1, p1⟩ => ?_
    refine ⟨w1, ρ, h1, e.le l1, s1, (Post.bind p1).mono fun u H2 ⟨w2, h2, d2, l2, r2, s2, p2⟩ => ?_⟩
    refine mono _ _ _ _ _ (fun v H ⟨b, e, q⟩ => by subst e; exact q) (hs s2 (r1.le l2) r2 p2)
theorem t_cmp {op : CmpOp} {r : R2} {f : D → D → Hd → Res Bool} (ho : OpR X (compareOp op) r) (hs : OpB (Cx.ct X) r f) (ha : SE X W a ma) (hb : SE X W b mb) (hm : behindInMarks op b = false) : ST X W (.Compare a [op] [b] pos) (mCmp f ma mb) :=
  PT.imp (pt_cmpR ho ha hb hm) fun σ H Q q => by
    refine (tP.bind q).mono fun v H1 ⟨w1, ρ, h1, d, e1, s1, r1, p1⟩ => ?_
    refine ⟨w1, ρ, h1, e1, s1, (Post.bind p1).mono fun u H2 ⟨w2, h2, d2, l2, r2, s2, p2⟩ => ?_⟩
    exact hs s2 (r1.le l2) r2 p2
end
def lstOf (h : Hd) : D → Option (List D)
  | .lst xs => some xs
  | .ref r => match h[r]? with
    | some (.lst xs) => some xs
    | _ => none
  | _ => none
def seqOf (h : Hd) : D → Option (List D)
  | .tup xs => some xs
  | .rol xs => some xs
  | .ktp xs => some xs
  | d => lstOf h d
def truthD (h : Hd) : D → Option Bool
  | .non => some false
  | .bl b => some b
  | .int i => some (i != 0)
  | .str s => if s.length ≤ sizeLine then some ((s.length : Int) != 0) else none
  | .tup xs => some (!xs.isEmpty)
  | .rol xs => some (!xs.isEmpty)
  | .lst xs => some (!xs.isEmpty)
  | .ref r => match h[r]? with
    | some (.lst xs) => some (!xs.isEmpty)
    | _ => none
  | _ => none
def optR {α : Type} (o : Option α) (h : Hd) : Res α := match o with
  | some a => .ok a h
  | none => .bad
section
variable {c : Ct} {w : Wd} {h : Hd} {H : Hp} {d : D} {v : V} {xs : List D}
theorem lstOf_ok (s : SR c w h H) (r : VR c w d v) (e : lstOf h d = some xs) : ∃ a vs, v = .ref a ∧ H a = some (.lst vs) ∧ VRs c w xs vs := by
  cases d with
  | lst ys =>
    simp only [lstOf, Option.some.injEq] at e; subst e
    simp only [VR] at r
    obtain ⟨a, vs, e1, q, z⟩ := r
    exact ⟨a, vs, e1, s.F _ _ q, z⟩
  | ref r' =>
    simp only [lstOf] at e
    split at e
    · rename_i ys q
      cases e
      simp only [VR] at r
      obtain ⟨a, rfl, f⟩ := r
      obtain ⟨b, q1, _, _, q4⟩ := s.cell r' _ q (by intro z; cases z)
      rw [f] at q1; cases q1
      obtain ⟨vs, z1, z2⟩ := q4
      exact ⟨a, vs, rfl, z1, z2⟩
    · cases e
  | _ => simp [lstOf] at e
theorem seqOf_ok (s : SR c w h H) (r : VR c w d v) (e : seqOf h d = some xs) : ∃ a vs, v = .ref a ∧ (SqL c.K H a vs ∨ SqT c.K H a vs) ∧ VRs c w xs vs := by
  cases d with
  | tup ys =>
    simp only [seqOf, Option.some.injEq] at e; subst e
    simp only [VR] at r
    obtain ⟨a, vs, e1, q, z⟩ := r
    exact ⟨a, vs, e1, .inr (SqT_le s.F q), z⟩
  | ktp ys =>
    simp only [seqOf, Option.some.injEq] at e; subst e
    simp only [VR] at r
    obtain ⟨a, vs, e1, q, z⟩ := r
    exact ⟨a, vs, e1, .inr q.sq, z⟩
  | rol ys =>
    simp only [seqOf, Option.some.injEq] at e; subst e
    simp only [VR] at r
    obtain ⟨a, vs, e1, q, z⟩ := r
    exact ⟨a, vs, e1, .inl (SqL_le s.F q), z⟩
  | lst ys =>
    obtain ⟨a, vs, e1, q, z⟩ := lstOf_ok s r (show lstOf h (.lst ys) = some xs from e)
    exact ⟨a, vs, e1, .inl (SqL.of q), z⟩
  | ref ys =>
    obtain ⟨a, vs, e1, q, z⟩ := lstOf_ok s r (show lstOf h (.ref ys) = some xs from e)
    exact ⟨a, vs, e1, .inl (SqL.of q), z⟩
  | _ => simp [seqOf, lstOf] at e
theorem VRs.isEmpty {vs : List V} (r : VRs c w xs vs) : xs.isEmpty = vs.isEmpty := by
  have := r.len
  cases xs <;> cases vs <;> simp_all
theorem truthD_ok {b : Bool} (s : SR c w h H) (r : VR c w d v) (e : truthD h d = some b) : TruV c.K v H b := by
  cases d with
  | non => simp only [VR] at r; subst r; simp only [truthD, Option.some.injEq] at e; exact e.symm
  | bl k => simp only [VR] at r; subst r; simp only [truthD, Option.some.injEq] at e; exact e.symm
  | int k => simp only [VR] at r; subst r; simp only [truthD, Option.some.injEq] at e; exact e.symm
  | str k =>
    simp only [VR] at r; subst r
    simp only [truthD] at e
    split at e
    · rename_i z; cases e; exact ⟨z, rfl⟩
    · cases e
  | tup ys =>
    simp only [truthD, Option.some.injEq] at e
    simp only [VR] at r
    obtain ⟨a, vs, rfl, q, z⟩ := r
    exact .inr (.inl ⟨vs, SqT_le s.F q, by rw [← z.isEmpty, e]⟩)
  | rol ys =>
    simp only [truthD, Option.some.injEq] at e
    simp only [VR] at r
    obtain ⟨a, vs, rfl, q, z⟩ := r
    exact .inl ⟨vs, SqL_le s.F q, by rw [← z.isEmpty, e]⟩
  | lst ys =>
    simp only [truthD, Option.some.injEq] at e
    simp only [VR] at r
    obtain ⟨a, vs, rfl, q, z⟩ := r
    exact .inl ⟨vs, SqL.of (s.F _ _ q), by rw [← z.isEmpty, e]⟩
  | ref r' =>
    simp only [truthD] at e
    split at e
    · rename_i ys q
      obtain ⟨a, vs, rfl, q1, z⟩ := lstOf_ok (xs := ys) s r (by simp only [lstOf, q])
      simp only [Option.some.injEq] at e
      exact .inl ⟨vs, SqL.of q1, by rw [← z.isEmpty, e]⟩
    · cases e
  | _ => simp [truthD] at e
end
def mTru (m : ME) : MT := fun ρ h => (m ρ h).bind fun d h => optR (truthD h d) h
def mNot (m : MT) : MT := fun ρ h => (m ρ h).bind fun b h => .ok (!b) h
def mAnd (m k : MT) : MT := fun ρ h => (m ρ h).bind fun b h => if b then k ρ h else .ok false h
def mOr (m k : MT) : MT := fun ρ h => (m ρ h).bind fun b h => if b then .ok true h else k ρ h
def mIf (t : MT) (a b : ME) : ME := fun ρ h => (t ρ h).bind fun k h => if k then a ρ h else b ρ h
def toB : D → Hd → Res Bool
  | .bl b, h => .ok b h
  | _, _ => .bad
section
variable {X : Cx} {W : WX} {e a b : Expr} {rest : List Expr} {ma mb : ME} {ta tb : MT} {pos : Pos}
theorem optR_post {α β : Type} {R : Wd → Hp → α → β → Prop} {c : Ct} {w : Wd} {σ : L2.St} {o : Option α} {h : Hd} {Q : β → Hp → Prop} (p : Post R c w W σ (optR o h) Q) : ∃ a, o = some a ∧ Post R c w W σ (.ok a h) Q := by
  cases o with
  | none => exact p.elim
  | some a => exact ⟨a, rfl, p⟩
/-- a test by its truth -/
theorem t_tru (ha : SE X W a ma) (he : ∀ whole, isTrue a X.env whole = (do let v ← whole; standAt a.pos; holding [v] (truthy v)) := by intro _; rfl) : ST X W a (mTru ma) := PT.imp (pt_truth ha he) fun σ H Q q => by
  refine (tP.bind q).mono fun v H1 ⟨w1, ρ, h1, d, e1, s1, r1, p1⟩ => ?_
  obtain ⟨b, eb, p2⟩ := optR_post p1
  exact ⟨b, truthD_ok s1 r1 eb, p2.ret rfl s1⟩
theorem t_not (ha : ST X W a ta) : ST X W (.UnaryOp .Not a pos) (mNot ta) := PT.imp (pt_not ha) fun σ H Q q => by
  refine (tP.bind q).mono fun v H1 ⟨w1, ρ, h1, d, e1, s1, r1, p1⟩ => ?_
  cases r1
  exact p1.ret rfl s1
theorem w_and1 (ha : ST X W a ta) : SW X W (.BoolOp .And [a] pos) ta := pw_and1 ha
theorem w_or1 (ha : ST X W a ta) : SW X W (.BoolOp .Or [a] pos) ta := pw_or1 ha
theorem and_rd {ct : Ct} {σ : L2.St} {H : Hp} {Q : Bool → Hp → Prop} (q : tT ct W (mAnd ta tb) σ H Q) : tAnd (tT ct W ta) (tT ct W tb) σ H Q := by
  refine (tP.bind q).mono fun v H1 ⟨w1, ρ, h1, d, e1, s1, r1, p1⟩ => ?_
  cases r1
  cases v with
  | true => exact ⟨w1, ρ, h1, e1, s1, p1⟩
  | false => exact p1.ret rfl s1
theorem or_rd {ct : Ct} {σ : L2.St} {H : Hp} {Q : Bool → Hp → Prop} (q : tT ct W (mOr ta tb) σ H Q) : tOr (tT ct W ta) (tT ct W tb) σ H Q := by
  refine (tP.bind q).mono fun v H1 ⟨w1, ρ, h1, d, e1, s1, r1, p1⟩ => ?_
  cases r1
  cases v with
  | true => exact p1.ret rfl s1
  | false => exact ⟨w1, ρ, h1, e1, s1, p1⟩
theorem w_and (ha : ST X W a ta) (hb : SW X W (.BoolOp .And (b :: rest) pos) tb) : SW X W (.BoolOp .And (a :: b :: rest) pos) (mAnd ta tb) := PW.imp (pw_and ha hb) fun σ H Q q => and_rd q
theorem w_or (ha : ST X W a ta) (hb : SW X W (.BoolOp .Or (b :: rest) pos) tb) : SW X W (.BoolOp .Or (a :: b :: rest) pos) (mOr ta tb) := PW.imp (pw_or ha hb) fun σ H Q q => or_rd q
theorem t_w (h : SW X W a ta) : ST X W a ta := PW.pt h
/-- values: and, or of bools; not by truth; a choice -/
def mAndV (m k : ME) : ME := fun ρ h => (m ρ h).bind fun d h => (toB d h).bind fun b h => if b then k ρ h else .ok (.bl false) h
def mOrV (m k : ME) : ME := fun ρ h => (m ρ h).bind fun d h => (toB d h).bind fun b h => if b then .ok (.bl true) h else k ρ h
def mNotV (m : ME) : ME := fun ρ h => (m ρ h).bind fun d h => (optR (truthD h d) h).bind fun b h => .ok (.bl (!b)) h
theorem e_one {op} (h : SE X W a ma) : SE X W (.BoolOp op [a] pos) ma := pe_one h
theorem e_and (ha : SE X W a ma) (hb : SE X W (.BoolOp .And (b :: rest) pos) mb) : SE X W (.BoolOp .And (a :: b :: rest) pos) (mAndV ma mb) := PE.imp (pe_and ha hb) fun σ H Q q => by
  refine (tP.bind q).mono fun v H1 ⟨w1, ρ, h1, d, e1, s1, r1, p1⟩ => ?_
  cases d with
  | bl k =>
    simp only [VR] at r1
    refine ⟨k, r1, ?_⟩
    cases k with
    | true => exact ⟨w1, ρ, h1, e1, s1, p1⟩
    | false => exact p1.ret (by simp only [VR]) s1
  | _ => exact p1.elim
theorem e_or (ha : SE X W a ma) (hb : SE X W (.BoolOp .Or (b :: rest) pos) mb) : SE X W (.BoolOp .Or (a :: b :: rest) pos) (mOrV ma mb) := PE.imp (pe_or ha hb) fun σ H Q q => by
  refine (tP.bind q).mono fun v H1 ⟨w1, ρ, h1, d, e1, s1, r1, p1⟩ => ?_
  cases d with
  | bl k =>
    simp only [VR] at r1
    refine ⟨k, r1, ?_⟩
    cases k with
    | true => exact p1.ret (by simp only [VR]) s1
    | false => exact ⟨w1, ρ, h1, e1, s1, p1⟩
  | _ => exact p1.elim
theorem e_not (ha : SE X W a ma) : SE X W (.UnaryOp .Not a pos) (mNotV ma) := PE.imp (pe_notT ha) fun σ H Q q => by
  refine (tP.bind q).mono fun v H1 ⟨w1, ρ, h1, d, e1, s1, r1, p1⟩ => ?_
  obtain ⟨b, eb, p2⟩ := optR_post (R := RB) ((Post.bind (R := RB) p1))
  exact ⟨b, truthD_ok s1 r1 eb, by
    obtain ⟨w2, h2, b2, l2, r2, s2, p3⟩ := p2.ret rfl s1
    cases r2
    exact p3.ret (by simp only [VR]) s2⟩
theorem e_if {t : Expr} (ht : ST X W t ta) (ha : SE X W a ma) (hb : SE X W b mb) : SE X W (.IfExp t a b pos) (mIf ta ma mb) := PE.imp (pe_ifExp ht ha hb) fun σ H Q q => by
  refine (tP.bind q).mono fun v H1 ⟨w1, ρ, h1, d, e1, s1, r1, p1⟩ => ?_
  cases r1
  cases v with
  | true => exact ⟨w1, ρ, h1, e1, s1, p1⟩
  | false => exact ⟨w1, ρ, h1, e1, s1, p1⟩
end
inductive Fl where
  | nx (ρ : Env) (h : Hd) | rt (d : D) (h : Hd) | bk (ρ : Env) (h : Hd) | ct (ρ : Env) (h : Hd) | exc (x : Xc) (ρ : Env) (h : Hd) | bad
abbrev MS := Env → Hd → Fl
def PostS (c : Ct) (w : Wd) (W : WX) (r : Fl) (Dn : Ends) : Prop := match r with
  | .nx ρ h => ∀ σ w' H', Le w w' → ER c w' ρ σ → SR c w' h H' → Dn.nx σ H'
  | .rt d h => ∀ v w' H', Le w w' → VR c w' d v → SR c w' h H' → Dn.rt v H'
  | .bk ρ h => ∀ σ w' H', Le w w' → ER c w' ρ σ → SR c w' h H' → Dn.bk σ H'
  | .ct ρ h => ∀ σ w' H', Le w w' → ER c w' ρ σ → SR c w' h H' → Dn.ct σ H'
  | .exc x ρ h => ∀ cls dx σ w' H', Le w w' → ER c w' ρ σ → SR c w' h H' → XR c w' x cls dx H' → W cls dx σ H'
  | .bad => False
theorem PostS.le {c : Ct} {w w' : Wd} {W : WX} {r : Fl} {Dn : Ends} (l : Le w w') (h : PostS c w W r Dn) : PostS c w' W r Dn := by
  cases r with
  | nx ρ hd => exact fun σ w2 H2 l2 => h σ w2 H2 (l.trans l2)
  | rt d hd => exact fun v w2 H2 l2 => h v w2 H2 (l.trans l2)
  | bk ρ hd => exact fun σ w2 H2 l2 => h σ w2 H2 (l.trans l2)
  | ct ρ hd => exact fun σ w2 H2 l2 => h σ w2 H2 (l.trans l2)
  | exc x ρ hd => exact fun cls dx σ w2 H2 l2 => h cls dx σ w2 H2 (l.trans l2)
  | bad => exact h
def tS (c : Ct) (W : WX) (m : MS) : TS := fun Dn σ H => ∃ w ρ h, ER c w ρ σ ∧ SR c w h H ∧ PostS c w W (m ρ h) Dn
def SS (X : Cx) (W : WX) (st : Stmt) (m : MS) : Prop := PS X st (tS (Cx.ct X) W m)
def SSs (X : Cx) (W : WX) (st : List Stmt) (m : MS) : Prop := PSs X st (tS (Cx.ct X) W m)
def liftR {α : Type} (m : Env → Hd → Res α) (k : α → Env → Hd → Fl) : MS := fun ρ h => match m ρ h with
  | .ok d h => k d ρ h
  | .exc x h => .exc x ρ h
  | .bad => .bad
theorem tS.lift {α β : Type} {R : Wd → Hp → α → β → Prop} {c : Ct} {W : WX} {m : Env → Hd → Res α} {k : α → Env → Hd → Fl} {Dn : Ends} {σ : L2.St} {H : Hp} (q : tS c W (liftR m k) Dn σ H) :
    tP R c W m σ H (fun v H1 => ∃ w1 ρ h1 d, ER c w1 ρ σ ∧ SR c w1 h1 H1 ∧ R w1 H1 d v ∧ PostS c w1 W (k d ρ h1) Dn) := by
  obtain ⟨w, ρ, h, e, s, p⟩ := q
  refine ⟨w, ρ, h, e, s, ?_⟩
  unfold liftR at p
  cases q : m ρ h with
  | ok d h1 => rw [q] at p; exact fun v w1 H1 l r s1 => ⟨w1, ρ, h1, d, e.le l, s1, r, PostS.le l p⟩
  | exc x h1 => rw [q] at p; exact fun cls dx w1 H1 l s1 x1 => p cls dx σ w1 H1 l (e.le l) s1 x1
  | bad => rw [q] at p; exact p
theorem PostS.nx {c : Ct} {w : Wd} {W : WX} {ρ : Env} {h : Hd} {Dn : Ends} {σ : L2.St} {H : Hp} (p : PostS c w W (.nx ρ h) Dn) (e : ER c w ρ σ) (s : SR c w h H) : Dn.nx σ H := p σ w H (.refl w) e s
theorem PostS.rt {c : Ct} {w : Wd} {W : WX} {d : D} {h : Hd} {Dn : Ends} {v : V} {H : Hp} (p : PostS c w W (.rt d h) Dn) (e : VR c w d v) (s : SR c w h H) : Dn.rt v H := p v w H (.refl w) e s
def mNil : MS := fun ρ h => .nx ρ h
def mSeq (a b : MS) : MS := fun ρ h => match a ρ h with
  | .nx ρ h => b ρ h
  | r => r
def mIfS (t : MT) (a b : MS) : MS := liftR t fun k ρ h => if k then a ρ h else b ρ h
def mRet (m : ME) : MS := liftR m fun d _ h => .rt d h
def mRetN : MS := fun _ h => .rt .non h
def mExpr (m : ME) : MS := liftR m fun _ ρ h => .nx ρ h
def mSet (i : Nat) (m : ME) : MS := liftR m fun d ρ h => .nx (ρ.set i (some d)) h
section
variable {X : Cx} {W : WX} {e a b : Expr} {st : Stmt} {rest body orelse : List Stmt} {ma mb : ME} {ta tb : MT} {sa sb : MS} {pos : Pos}
theorem s_nil : SSs X W [] mNil := PSs.imp pss_nil fun Dn σ H ⟨w, ρ, h, e, s, p⟩ => p.nx e s
theorem s_cons (h1 : SS X W st sa) (h2 : SSs X W rest sb) : SSs X W (st :: rest) (mSeq sa sb) := PSs.imp (pss_cons h1 h2) fun Dn σ H ⟨w, ρ, h, e, s, p⟩ => by
  refine ⟨w, ρ, h, e, s, ?_⟩
  unfold mSeq at p
  cases q : sa ρ h with
  | nx ρ1 h1 => rw [q] at p; exact fun σ1 w1 H1 l e1 s1 => ⟨w1, ρ1, h1, e1, s1, PostS.le l p⟩
  | rt d h1 => rw [q] at p; exact p
  | bk ρ1 h1 => rw [q] at p; exact p
  | ct ρ1 h1 => rw [q] at p; exact p
  | exc x ρ1 h1 => rw [q] at p; exact p
  | bad => rw [q] at p; exact p
theorem s_one (h1 : SS X W st sa) : SSs X W [st] sa := pss_one h1
theorem s_ret (ha : SE X W a ma) : SS X W (.Return (some a) pos) (mRet ma) := PS.imp (ps_ret ha) fun Dn σ H q => by
  refine (tS.lift q).mono fun v H1 ⟨w1, ρ, h1, d, e1, s1, r1, p1⟩ => ?_
  exact p1.rt r1 s1
theorem s_expr (ha : SE X W a ma) (hs : swapsWith a none pos.line X.env = pure false := by rfl) : SS X W (.Expr a pos) (mExpr ma) := PS.imp (ps_expr ha hs) fun Dn σ H q => by
  refine (tS.lift q).mono fun v H1 ⟨w1, ρ, h1, d, e1, s1, r1, p1⟩ => ?_
  exact p1.nx e1 s1
theorem s_if (ht : ST X W a ta) (h1 : SSs X W body sa) (h2 : SSs X W orelse sb) : SS X W (.If a body orelse pos) (mIfS ta sa sb) := PS.imp (ps_if ht h1 h2) fun Dn σ H q => by
  refine (tS.lift q).mono fun v H1 ⟨w1, ρ, h1, d, e1, s1, r1, p1⟩ => ?_
  cases r1
  cases v with
  | true => exact ⟨w1, ρ, h1, e1, s1, p1⟩
  | false => exact ⟨w1, ρ, h1, e1, s1, p1⟩
theorem s_set (i : Nat) {x : Str} {pos' : Pos} (ha : SE X W a ma) (hN : X.N.Nodup) (hi : X.N[i]? = some x := by rfl) (hx : Loc X.env.scope x := by first | exact Or.inl rfl | exact Or.inr rfl) (hs : swapsWith a (some (.Name x pos')) pos.line X.env = pure false := by rfl)
    (hf : X.fn x = true ∨ X.env.scope.names.lookup x = some .local := by first | exact .inl rfl | exact .inr rfl | assumption) : SS X W (.Assign [.Name x pos'] a pos) (mSet i ma) := PS.imp (ps_set hN hi hx ha hs hf) fun Dn σ H q => by
  refine (tS.lift q).mono fun v H1 ⟨w1, ρ, h1, d, e1, s1, r1, p1⟩ => ?_
  exact p1.nx (e1.set i r1) s1
def Eqx (ix : List Nat) (σ σ' : L2.St) : Prop := σ'.length = σ.length ∧ ∀ i, i ∉ ix → σ'[i]? = σ[i]?
theorem Eqx.refl {ix : List Nat} {σ : L2.St} : Eqx ix σ σ := ⟨rfl, fun _ _ => rfl⟩
theorem Eqx.trans {ix : List Nat} {σ σ1 σ2 : L2.St} (a : Eqx ix σ σ1) (b : Eqx ix σ1 σ2) : Eqx ix σ σ2 := ⟨b.1.trans a.1, fun i h => (b.2 i h).trans (a.2 i h)⟩
theorem Eqx.mono {ix ix' : List Nat} {σ σ1 : L2.St} (a : Eqx ix σ σ1) (h : ∀ i ∈ ix, i ∈ ix') : Eqx ix' σ σ1 := ⟨a.1, fun i q => a.2 i fun z => q (h i z)⟩
theorem wipe_at {σ : L2.St} : ∀ {vs : List Nat} {i : Nat}, i ∈ vs → (wipe σ vs)[i]? = if i < σ.length then some none else none
  | [], i, h => by cases h
  | v :: vs, i, h => by
    show ((wipe σ vs).set v none)[i]? = _
    rw [List.getElem?_set, wipe_length]
    by_cases e : v = i
    · rw [if_pos e, e]
    · rw [if_neg e]
      exact wipe_at ((List.mem_cons.mp h).resolve_left fun z => e z.symm)
theorem Eqx.wipe {ix : List Nat} {σ σ1 : L2.St} (a : Eqx ix σ σ1) : L2.wipe σ1 ix = L2.wipe σ ix := by
  apply List.ext_getElem?
  intro i
  by_cases h : i ∈ ix
  · rw [wipe_at h, wipe_at h, a.1]
  · rw [wipe_out h, wipe_out h, a.2 i h]
abbrev MG := D → Env → Hd → Res Env
def PostG (c : Ct) (w : Wd) (W : WX) (ix : List Nat) (σ : L2.St) (r : Res Env) (Q : L2.St → Hp → Prop) : Prop := match r with
  | .ok ρ h => ∀ σ' w' H', Le w w' → ER c w' ρ σ' → SR c w' h H' → Eqx ix σ σ' → Q σ' H'
  | .exc x h => ∀ cls dx w' H', Le w w' → SR c w' h H' → XR c w' x cls dx H' → W cls dx σ H'
  | .bad => False
theorem PostG.le {c : Ct} {w w' : Wd} {W : WX} {ix : List Nat} {σ : L2.St} {r : Res Env} {Q : L2.St → Hp → Prop} (l : Le w w') (h : PostG c w W ix σ r Q) : PostG c w' W ix σ r Q := by
  cases r with
  | ok ρ hd => exact fun σ' w2 H2 l2 => h σ' w2 H2 (l.trans l2)
  | exc x hd => exact fun cls dx w2 H2 l2 => h cls dx w2 H2 (l.trans l2)
  | bad => exact h
def tG (c : Ct) (W : WX) (ix : List Nat) (m : MG) : TG := fun v σ H Q => ∃ w ρ h d, ER c w ρ σ ∧ SR c w h H ∧ VR c w d v ∧ PostG c w W ix σ (m d ρ h) Q
def SG (X : Cx) (W : WX) (ix : List Nat) (tg : Expr) (m : MG) : Prop := PG X tg (tG (Cx.ct X) W ix m)
theorem PG.imp {X : Cx} {e : Expr} {t t' : TG} (h : PG X e t) (i : ∀ v σ H Q, t' v σ H Q → t v σ H Q) : PG X e t' := ⟨fun pins s σ H v u Q I r q => h.run pins s σ H v u Q I r (i _ _ _ _ q)⟩
theorem PGs.imp {X : Cx} {e : List Expr} {t t' : TGs} (h : PGs X e t) (i : ∀ v σ H Q, t' v σ H Q → t v σ H Q) : PGs X e t' := ⟨fun pins s σ H v u Q I r q => h.run pins s σ H v u Q I r (i _ _ _ _ q)⟩
def gSet (i : Nat) : MG := fun d ρ h => .ok (ρ.set i (some d)) h
theorem g_name (i : Nat) {x : Str} (hN : X.N.Nodup) (hi : X.N[i]? = some x := by rfl) (hx : Loc X.env.scope x := by first | exact Or.inl rfl | exact Or.inr rfl) (hf : X.fn x = true ∨ X.env.scope.names.lookup x = some .local := by first | exact .inl rfl | exact .inr rfl | assumption) :
    SG X W [i] (.Name x pos) (gSet i) := PG.imp (pg_name hN hi hx hf) fun v σ H Q ⟨w, ρ, h, d, e, s, r, p⟩ => by
  refine p _ w H (.refl w) (e.set i r) s ⟨by simp, fun j hj => ?_⟩
  rw [List.getElem?_set_ne (by simp at hj; omega)]
abbrev MGs := List D → Env → Hd → Res Env
def tGs (c : Ct) (W : WX) (ix : List Nat) (m : MGs) : TGs := fun vs σ H Q => ∃ w ρ h ds, ER c w ρ σ ∧ SR c w h H ∧ VRs c w ds vs ∧ PostG c w W ix σ (m ds ρ h) Q
def GNX (m : MG) : Prop := ∀ d ρ h x h', m d ρ h ≠ .exc x h'
structure SGs (X : Cx) (W : WX) (ix : List Nat) (tg : List Expr) (m : MGs) : Prop where
  g : PGs X tg (tGs (Cx.ct X) W ix m)
  n : ∀ ds ρ h x h', m ds ρ h ≠ .exc x h'
structure SGn (X : Cx) (W : WX) (ix : List Nat) (tg : Expr) (m : MG) : Prop where
  g : SG X W ix tg m
  n : GNX m
def gsNil : MGs := fun ds ρ h => match ds with
  | [] => .ok ρ h
  | _ => .bad
def gsCons (g : MG) (gs : MGs) : MGs := fun ds ρ h => match ds with
  | d :: r => (g d ρ h).bind fun ρ h => gs r ρ h
  | [] => .bad
theorem gs_nil : SGs X W [] [] gsNil := by
  refine ⟨PGs.imp pgs_nil fun vs σ H Q ⟨w, ρ, h, ds, e, s, r, p⟩ => ?_, fun ds ρ h x h' q => by cases ds <;> cases q⟩
  cases ds with
  | nil => simp only [VRs] at r; exact ⟨r, p _ w H (.refl w) e s .refl⟩
  | cons _ _ => exact p.elim
theorem gn_name (i : Nat) {x : Str} (hN : X.N.Nodup) (hi : X.N[i]? = some x := by rfl) (hx : Loc X.env.scope x := by first | exact Or.inl rfl | exact Or.inr rfl) (hf : X.fn x = true ∨ X.env.scope.names.lookup x = some .local := by first | exact .inl rfl | exact .inr rfl | assumption) :
    SGn X W [i] (.Name x pos) (gSet i) := ⟨g_name i hN hi hx hf, fun d ρ h x h' q => by cases q⟩
theorem gs_cons {tg : Expr} {tgs : List Expr} {ix jx : List Nat} {g : MG} {gs : MGs} (h1 : SGn X W ix tg g) (h2 : SGs X W jx tgs gs)
    (hs : (assignEach (tg :: tgs) X.env).map (·.2) = assign tg X.env :: (assignEach tgs X.env).map (·.2) := by rfl) : SGs X W (ix ++ jx) (tg :: tgs) (gsCons g gs) := by
  have hr := h1.n
  have hr2 := h2.n
  refine ⟨PGs.imp (pgs_cons h1.g h2.g hs) fun vs σ H Q ⟨w, ρ, h, ds, e, s, r, p⟩ => ?_, fun ds ρ h x h' q => ?_⟩
  rotate_left
  · cases ds with
    | nil => cases q
    | cons d ds =>
      have q' : ((g d ρ h).bind fun ρ h => gs ds ρ h) = .exc x h' := q
      cases e : g d ρ h with
      | ok ρ1 h1 => rw [e] at q'; exact hr2 _ _ _ _ _ q'
      | exc x h1 => exact hr _ _ _ _ _ e
      | bad => rw [e] at q'; cases q'
  cases ds with
  | nil => exact p.elim
  | cons d ds =>
    simp only [VRs] at r
    obtain ⟨v, us, rfl, r1, r2⟩ := r
    refine ⟨v, us, rfl, w, ρ, h, d, e, s, r1, ?_⟩
    have p' : PostG (Cx.ct X) w W (ix ++ jx) σ ((g d ρ h).bind fun ρ h => gs ds ρ h) Q := p
    cases q : g d ρ h with
    | ok ρ1 h1 =>
      rw [q] at p'
      refine fun σ1 w1 H1 l1 e1 s1 x1 => ⟨w1, ρ1, h1, ds, e1, s1, r2.le l1, ?_⟩
      have p2 : PostG (Cx.ct X) w W (ix ++ jx) σ (gs ds ρ1 h1) Q := p'
      cases q2 : gs ds ρ1 h1 with
      | ok ρ2 h2 =>
        rw [q2] at p2
        exact fun σ2 w2 H2 l2 e2 s2 x2 => p2 σ2 w2 H2 (l1.trans l2) e2 s2 ((x1.mono fun i z => List.mem_append_left _ z).trans (x2.mono fun i z => List.mem_append_right _ z))
      | exc x h2 => exact absurd q2 (hr2 _ _ _ _ _)
      | bad => rw [q2] at p2; exact p2
    | exc x h1 => exact absurd q (hr _ _ _ _ _)
    | bad => rw [q] at p'; exact p'
def gTupM (n : Nat) (gs : MGs) : MG := fun d ρ h => match d with
  | .tup xs => if xs.length = n then gs xs ρ h else .bad
  | _ => .bad
theorem g_tup {es : List Expr} {k : Nat} {n : Nat} {ix : List Nat} {gs : MGs} (hc : X.calm = true) (h : SGs X W ix es gs) (hn : (assignEach es X.env).length = n := by rfl) (hst : (assignEach es X.env).findIdx? (·.1) = none := by rfl) : SG X W ix (.Tuple es k pos) (gTupM n gs) :=
  PG.imp (pg_tup hc h.g hn hst) fun v σ H Q ⟨w, ρ, h, d, e, s, r, p⟩ => by
  cases d with
  | tup xs =>
    have p' : PostG (Cx.ct X) w W ix σ (if xs.length = n then gs xs ρ h else .bad) Q := p
    split at p'
    · rename_i hl
      simp only [VR] at r
      obtain ⟨a, vs, rfl, q, z⟩ := r
      exact ⟨a, vs, rfl, SqT_le s.F q, by rw [← z.len, hl], w, ρ, h, xs, e, s, z, p'⟩
    · exact p'.elim
  | _ => exact p.elim
theorem gn_tup {es : List Expr} {k : Nat} {n : Nat} {ix : List Nat} {gs : MGs} (hc : X.calm = true) (h : SGs X W ix es gs) (hn : (assignEach es X.env).length = n := by rfl) (hst : (assignEach es X.env).findIdx? (·.1) = none := by rfl) : SGn X W ix (.Tuple es k pos) (gTupM n gs) :=
  ⟨g_tup hc h hn hst, fun d ρ h' x h2 q => by
    cases d with
    | tup xs =>
      have q' : (if xs.length = n then gs xs ρ h' else .bad) = .exc x h2 := q
      split at q'
      · exact h.n _ _ _ _ _ q'
      · cases q'
    | _ => cases q⟩
def mAsg (m : ME) (g : MG) : MS := liftR m fun d ρ h => match g d ρ h with
  | .ok ρ h => .nx ρ h
  | .exc x h => .exc x ρ h
  | .bad => .bad
theorem asg_rd {ct : Ct} {ix : List Nat} {g : MG} {Dn : Ends} {σ : L2.St} {H : Hp} (q : tS ct W (mAsg ma g) Dn σ H) : tAsg (tE ct W ma) (tG ct W ix g) Dn σ H := by
  refine (tS.lift q).mono fun v H1 ⟨w1, ρ, h1, d, e1, s1, r1, p1⟩ => ⟨w1, ρ, h1, d, e1, s1, r1, ?_⟩
  cases q : g d ρ h1 with
  | ok ρ2 h2 => rw [q] at p1; exact fun σ' w' H' l e s _ => p1 σ' w' H' l e s
  | exc x h2 => rw [q] at p1; exact fun cls dx w' H' l s x => p1 cls dx σ w' H' l (e1.le l) s x
  | bad => rw [q] at p1; exact p1
theorem s_asg {tg : Expr} {ix : List Nat} {g : MG} (ha : SE X W a ma) (hg : SG X W ix tg g) (hs : swapsWithSole [tg] a pos.line X.env = pure false := by rfl) (hw : swappedStores [tg] a X.env = pure none := by rfl)
    (h1 : (assignEach [tg] X.env).map (·.2) = [assign tg X.env] := by rfl) : SS X W (.Assign [tg] a pos) (mAsg ma g) := PS.imp (ps_asg ha hg hs hw h1) fun Dn σ H q => asg_rd q
end
open Classical in
/-! ## what is walked -/
structure Src where
  items : List D
  chk : Hd → Prop
def SrcOk (c : Ct) (w : Wd) (s : Src) (J : It) : Prop := ∃ (G : Hp → Prop) (Y : Nat → Hp → V → Hp → Prop), Walk J s.items.length G Y ∧ (∀ w2 h2 H2, Le1 w w2 → SR c w2 h2 H2 → s.chk h2 → G H2) ∧
  (∀ i x H2 H3 w2 h2, i < s.items.length → Le1 w w2 → SR c w2 h2 H2 → s.chk h2 → Y i H2 x H3 → ∃ w3 d, Le w2 w3 ∧ SR c w3 h2 H3 ∧ s.items[i]? = some d ∧ VR c w3 d x)
abbrev MI := Env → Hd → Res Src
abbrev tI (c : Ct) (W : WX) (m : MI) : TI := tP (fun w _ s J => SrcOk c w s J) c W m
def SI (X : Cx) (W : WX) (tg iter : Expr) (m : MI) : Prop := PI X tg iter (tI (Cx.ct X) W m)
theorem PI.imp {X : Cx} {tg e : Expr} {t t' : TI} (h : PI X tg e t) (i : ∀ σ H R, t' σ H R → t σ H R) : PI X tg e t' := ⟨fun pins s σ H R I q => h.run pins s σ H R I (i _ _ _ q)⟩
/-- by the value: a list, a tuple, a text -/
def iAny (K : PySem.W.Frag) (te : TE) : TI := fun σ H R => te σ H fun v H1 => (∃ a xs, v = .ref a ∧ SqL K H1 a xs ∧ R (Itl K a) H1) ∨ (∃ a xs, v = .ref a ∧ SqT K H1 a xs ∧ R (Itt K a) H1) ∨ ∃ x, v = .str x ∧ R (Its x) H1
open PyProof.Rows in
theorem pi_any {X : Cx} {tg e : Expr} {te : TE} (he : PE X e te) : PI X tg e (iAny X.K te) := by
  refine ⟨fun pins s σ H R I h => ?_⟩
  refine thn (he.run pins s σ H _ I h) fun v s1 ⟨y, H1, I1, r1, q1⟩ => ?_
  rcases q1 with ⟨a, xs, rfl, hq, q⟩ | ⟨a, xs, rfl, hq, q⟩ | ⟨x, rfl, q⟩
  · cases r1
    obtain ⟨its, rv, p, hz⟩ := I1.list hq
    refine wpAny_pyIter_list p.isList ?_
    refine ⟨s1.heap.objs.size, [s1.heap.objs.size], _, _, H1, rfl, I1.kept (t' := s1.toks) fun b o e => Heap.get?_push_of_some _ e, turn_list a _, ⟨_, Heap.get?_push_size _ rfl, rfl, rfl⟩, fun b hb => ?_, q⟩
    have e : b = s1.heap.objs.size := by simpa using hb
    subst e
    exact I1.fpOk (Nat.le_refl _) (I1.hok.fresh (Nat.le_refl _))
  · cases r1
    obtain ⟨its, rv, p, hz⟩ := I1.tuple hq
    refine wpAny_pyIter_tuple (show s1.heap.IsTuple a its.toArray from p) ?_
    refine ⟨s1.heap.objs.size, [s1.heap.objs.size], _, _, H1, rfl, I1.kept (t' := s1.toks) fun b o e => Heap.get?_push_of_some _ e, turn_tuple a _, ⟨_, Heap.get?_push_size _ rfl, rfl, rfl⟩, fun b hb => ?_, q⟩
    have e : b = s1.heap.objs.size := by simpa using hb
    subst e
    exact I1.fpOk (Nat.le_refl _) (I1.hok.fresh (Nat.le_refl _))
  · obtain ⟨t, rfl⟩ := r1
    cases ha : x.cps.all (· < 128)
    · exact wpAny_pyIter_wide ha (pi_one (tk := s1.toks) I1 _ (turn_str _ x t "str_iterator" (.inr rfl)) ⟨_, Heap.get?_push_size _ rfl, rfl, rfl⟩ q)
    · exact wpAny_pyIter_ascii ha (pi_one (tk := s1.toks) I1 _ (turn_str _ x t "str_ascii_iterator" (.inl rfl)) ⟨_, Heap.get?_push_size _ rfl, rfl, rfl⟩ q)
def signs (s : Str) : List D := s.cps.toList.map fun c => .str ⟨#[c]⟩
def srcOf (h : Hd) : D → Option Src
  | .tup xs => some ⟨xs, fun _ => True⟩
  | .ktp xs => some ⟨xs, fun _ => True⟩
  | .rol xs => some ⟨xs, fun _ => True⟩
  | .lst xs => some ⟨xs, fun _ => True⟩
  | .str s => some ⟨signs s, fun _ => True⟩
  | .ref r => match h[r]? with
    | some (.lst xs) => some ⟨xs, fun h => h[r]? = some (.lst xs)⟩
    | _ => none
  | _ => none
def mIter (m : ME) : MI := fun ρ h => (m ρ h).bind fun d h => optR (srcOf h d) h
section
variable {X : Cx} {W : WX} {e a b : Expr} {st : Stmt} {rest body orelse : List Stmt} {ma mb : ME} {ta tb : MT} {sa sb : MS} {pos : Pos}
theorem srcL {c : Ct} {w : Wd} {a : Addr} {vs : List V} {ds : List D} {chk : Hd → Prop} (g : ∀ w2 h2 H2, Le1 w w2 → SR c w2 h2 H2 → chk h2 → SqL c.K H2 a vs) (r : VRs c w ds vs) : SrcOk c w ⟨ds, chk⟩ (Itl c.K a) := by
  refine ⟨_, _, (r.len ▸ walk_list : Walk (Itl c.K a) ds.length (fun H => SqL c.K H a vs) (YAt vs)), g, fun i x H2 H3 w2 h2 hi l s ck y => ?_⟩
  obtain ⟨rfl, e⟩ := y
  obtain ⟨d, e1, r1⟩ := r.get' e
  exact ⟨w2, d, .refl _, s, e1, r1.le0 l.toLe0⟩
theorem srcT {c : Ct} {w : Wd} {a : Addr} {vs : List V} {ds : List D} (g : TpAt c.K w.F a vs) (r : VRs c w ds vs) : SrcOk c w ⟨ds, fun _ => True⟩ (Itt c.K a) := by
  refine ⟨_, _, (r.len ▸ walk_tup : Walk (Itt c.K a) ds.length (fun H => SqT c.K H a vs) (YAt vs)), fun w2 h2 H2 l s _ => SqT_le (fun a o q => s.F a o (l.F a o q)) g, fun i x H2 H3 w2 h2 hi l s ck y => ?_⟩
  obtain ⟨rfl, e⟩ := y
  obtain ⟨d, e1, r1⟩ := r.get' e
  exact ⟨w2, d, .refl _, s, e1, r1.le0 l.toLe0⟩
theorem srcTK {c : Ct} {w : Wd} {a : Addr} {vs : List V} {ds : List D} (g : TpK c.K a vs) (r : VRs c w ds vs) : SrcOk c w ⟨ds, fun _ => True⟩ (Itt c.K a) := by
  refine ⟨_, _, (r.len ▸ walk_tup : Walk (Itt c.K a) ds.length (fun H => SqT c.K H a vs) (YAt vs)), fun w2 h2 H2 l s _ => g.sq, fun i x H2 H3 w2 h2 hi l s ck y => ?_⟩
  obtain ⟨rfl, e⟩ := y
  obtain ⟨d, e1, r1⟩ := r.get' e
  exact ⟨w2, d, .refl _, s, e1, r1.le0 l.toLe0⟩
theorem srcR {c : Ct} {w : Wd} {a : Addr} {r : Nat} {xs : List D} (f : w.φ r = some a) : SrcOk c w ⟨xs, fun h => h[r]? = some (.lst xs)⟩ (Itl c.K a) := by
  refine ⟨fun H => ∃ vs, SqL c.K H a vs ∧ vs.length = xs.length, fun i H x H' => H' = H ∧ ∀ vs, SqL c.K H a vs → vs[i]? = some x, ⟨fun i H hi g => ?_, fun H g => ?_, fun i H x H' hi g y => y⟩, fun w2 h2 H2 l s ck => ?_, fun i x H2 H3 w2 h2 hi l s ck y => ?_⟩
  · obtain ⟨vs, q, e⟩ := g
    have hi' : i < vs.length := by rw [e]; exact hi
    exact ⟨vs, vs[i], q, List.getElem?_eq_getElem hi'⟩
  · obtain ⟨vs, q, e⟩ := g
    exact ⟨vs, q, by rw [e]; exact Nat.le_refl _⟩
  · obtain ⟨a2, vs2, ea2, q2, z2⟩ := lstOf_ok (xs := xs) (d := .ref r) (v := .ref a) s (by simp only [VR]; exact ⟨a, rfl, l.φ _ _ f⟩) (by simp only [lstOf]; rw [show h2[r]? = some (.lst xs) from ck])
    cases ea2
    exact ⟨vs2, SqL.of q2, z2.len.symm⟩
  · obtain ⟨rfl, y⟩ := y
    obtain ⟨a2, vs2, ea2, q2, z2⟩ := lstOf_ok (xs := xs) (d := .ref r) (v := .ref a) s (by simp only [VR]; exact ⟨a, rfl, l.φ _ _ f⟩) (by simp only [lstOf]; rw [show h2[r]? = some (.lst xs) from ck])
    cases ea2
    obtain ⟨d, e, r1⟩ := z2.get' (y _ (SqL.of q2))
    exact ⟨w2, d, .refl _, s, e, r1⟩
theorem signs_len (s : Str) : (signs s).length = s.cps.size := by simp [signs]
theorem srcS {c : Ct} {w : Wd} {s : Str} : SrcOk c w ⟨signs s, fun _ => True⟩ (Its s) := by
  refine ⟨_, _, (signs_len s ▸ walk_str : Walk (Its s) (signs s).length (fun _ => True) _), fun _ _ _ _ _ _ => trivial, fun i x H2 H3 w2 h2 hi l s' ck y => ?_⟩
  obtain ⟨rfl, z, e, rfl⟩ := y
  refine ⟨w2, .str ⟨#[z]⟩, .refl _, s', ?_, by simp only [VR]⟩
  simp only [signs, List.getElem?_map, Array.getElem?_toList, e, Option.map_some]
theorem any_rd {ct : Ct} {σ : L2.St} {H : Hp} {R : It → Hp → Prop} (q : tI ct W (mIter ma) σ H R) : iAny ct.K (tE ct W ma) σ H R := by
  refine (tP.bind q).mono fun v H1 ⟨w1, ρ, h1, d, e1, s1, r1, p1⟩ => ?_
  obtain ⟨sr, eo, p2⟩ := optR_post p1
  have fin : ∀ J, SrcOk ct w1 sr J → R J H1 := fun J k => p2 J w1 H1 (.refl _) k s1
  cases d with
  | tup xs =>
    simp only [srcOf, Option.some.injEq] at eo; subst eo
    simp only [VR] at r1
    obtain ⟨a, vs, rfl, q, z⟩ := r1
    exact .inr (.inl ⟨a, vs, rfl, SqT_le s1.F q, fin _ (srcT q z)⟩)
  | ktp xs =>
    simp only [srcOf, Option.some.injEq] at eo; subst eo
    simp only [VR] at r1
    obtain ⟨a, vs, rfl, q, z⟩ := r1
    exact .inr (.inl ⟨a, vs, rfl, q.sq, fin _ (srcTK q z)⟩)
  | rol xs =>
    simp only [srcOf, Option.some.injEq] at eo; subst eo
    simp only [VR] at r1
    obtain ⟨a, vs, rfl, q, z⟩ := r1
    exact .inl ⟨a, vs, rfl, SqL_le s1.F q, fin _ (srcL (fun w2 h2 H2 l s _ => SqL_le (fun a o q => s.F a o (l.F a o q)) q) z)⟩
  | lst xs =>
    simp only [srcOf, Option.some.injEq] at eo; subst eo
    simp only [VR] at r1
    obtain ⟨a, vs, rfl, q, z⟩ := r1
    exact .inl ⟨a, vs, rfl, SqL.of (s1.F _ _ q), fin _ (srcL (fun w2 h2 H2 l s _ => SqL.of (s.F _ _ (l.F _ _ q))) z)⟩
  | str s =>
    simp only [srcOf, Option.some.injEq] at eo; subst eo
    simp only [VR] at r1; subst r1
    exact .inr (.inr ⟨s, rfl, fin _ srcS⟩)
  | ref r =>
    simp only [srcOf] at eo
    split at eo
    · rename_i xs q
      cases eo
      obtain ⟨a, vs, rfl, q1, z⟩ := lstOf_ok (xs := xs) s1 r1 (by simp only [lstOf, q])
      simp only [VR] at r1
      obtain ⟨a', ea, f⟩ := r1
      cases ea
      exact .inl ⟨a, vs, rfl, SqL.of q1, fin _ (srcR f)⟩
    · cases eo
  | _ => simp [srcOf] at eo
end
open Classical
def afterB (k : Env → Hd → Fl) : Fl → Fl
  | .nx ρ h => k ρ h
  | .ct ρ h => k ρ h
  | .bk ρ h => .nx ρ h
  | r => r
noncomputable def forGo (chk : Hd → Prop) (g : MG) (b : MS) : List D → Env → Hd → Fl
  | [], ρ, h => if chk h then .nx ρ h else .bad
  | d :: ds, ρ, h => if chk h then (match g d ρ h with
    | .ok ρ1 h1 => afterB (fun ρ2 h2 => forGo chk g b ds ρ2 h2) (b ρ1 h1)
    | .exc x h1 => .exc x ρ h1
    | .bad => .bad) else .bad
noncomputable def mFor (mi : MI) (g : MG) (b : MS) : MS := liftR mi fun s ρ h => forGo s.chk g b s.items ρ h
section
variable {X : Cx} {W : WX} {e a : Expr} {st : Stmt} {rest body orelse : List Stmt} {ma mb : ME} {ta tb : MT} {sa b : MS} {pos : Pos}
theorem s_for {tg iter : Expr} {mi : MI} {g : MG} {ix : List Nat} (hc : X.calm = true) (hi : SI X W tg iter mi) (hg : SG X W ix tg g) (hb : SSs X W body b) (hp : PassesOwn (model X.prog X.w) X.A X.env X.xe)
    (hs : ∀ x, foldedSetIterable iter X.env x = pure x := by intro _; rfl) : SS X W (.For tg iter body [] pos) (mFor mi g b) := PS.imp (ps_for hp hc hi hg hb hs) fun Dn σ H q => by
  refine (tS.lift q).mono fun J H1 ⟨w1, ρ, h1, s, e1, s1, k1, p1⟩ => ?_
  obtain ⟨G, Y, wk, hG, hY⟩ := id k1
  refine for_it wk (fun i σ H => ∃ w ρ h, Le w1 w ∧ ER (Cx.ct X) w ρ σ ∧ SR (Cx.ct X) w h H ∧ PostS (Cx.ct X) w W (forGo s.chk g b (s.items.drop i) ρ h) Dn) ⟨w1, ρ, h1, .refl _, e1, s1, p1⟩ ?_ ?_ ?_
  · rintro i σ' H' hi ⟨w, ρ, h, l, e, sr, p⟩
    refine hG w h H' l.to1 sr ?_
    by_cases ck : s.chk h
    · exact ck
    · exfalso
      cases q : s.items.drop i with
      | nil => rw [q] at p; simp only [forGo, if_neg ck] at p; exact p
      | cons d ds => rw [q] at p; simp only [forGo, if_neg ck] at p; exact p
  · rintro i x σ' H' H'' hi ⟨w, ρ, h, l, e, sr, p⟩ y
    have hd : s.items.drop i = s.items[i] :: s.items.drop (i + 1) := List.drop_eq_getElem_cons hi
    rw [hd] at p
    simp only [forGo] at p
    split at p
    · rename_i ck
      obtain ⟨w3, d, l3, sr3, ed, r3⟩ := hY i x H' H'' w h hi l.to1 sr ck y
      rw [List.getElem?_eq_getElem hi] at ed
      cases ed
      refine ⟨w3, ρ, h, s.items[i], e.le l3, sr3, r3, ?_⟩
      cases q1 : g s.items[i] ρ h with
      | ok ρ1 h1 =>
        rw [q1] at p
        refine fun σ2 w2 H2 l2 e2 sr2 _ => ⟨w2, ρ1, h1, e2, sr2, ?_⟩
        have p' : PostS (Cx.ct X) w W (afterB (fun ρ2 h2 => forGo s.chk g b (s.items.drop (i + 1)) ρ2 h2) (b ρ1 h1)) Dn := p
        have l' : Le w w2 := l3.trans l2
        have p2 := PostS.le l' p'
        cases q2 : b ρ1 h1 with
        | nx ρ2 h2 => rw [q2] at p2; exact fun σ3 w3 H3 l3 e3 s3 => ⟨w3, ρ2, h2, (l.trans l').trans l3, e3, s3, PostS.le l3 p2⟩
        | ct ρ2 h2 => rw [q2] at p2; exact fun σ3 w3 H3 l3 e3 s3 => ⟨w3, ρ2, h2, (l.trans l').trans l3, e3, s3, PostS.le l3 p2⟩
        | bk ρ2 h2 => rw [q2] at p2; exact fun σ3 w3 H3 l3 e3 s3 => p2 σ3 w3 H3 l3 e3 s3
        | rt d h2 => rw [q2] at p2; exact p2
        | exc x ρ2 h2 => rw [q2] at p2; exact p2
        | bad => rw [q2] at p2; exact p2
      | exc x h1 => rw [q1] at p; exact fun cls dx w2 H2 l2 sr2 x2 => p cls dx σ' w2 H2 (l3.trans l2) (e.le (l3.trans l2)) sr2 x2
      | bad => rw [q1] at p; exact p
    · exact p.elim
  · rintro σ' H' ⟨w, ρ, h, l, e, sr, p⟩
    rw [List.drop_length] at p
    simp only [forGo] at p
    split at p
    · exact p.nx e sr
    · exact p.elim
def whileN (t : MT) (b : MS) : Nat → MS
  | 0 => fun _ _ => .bad
  | n + 1 => liftR t fun k ρ h => if k then afterB (whileN t b n) (b ρ h) else .nx ρ h
/-- the answer, whatever the turns -/
noncomputable def mWhile (t : MT) (b : MS) : MS := fun ρ h => if q : ∃ n, whileN t b n ρ h ≠ .bad then whileN t b q.choose ρ h else .bad
theorem whileN_rd {c : Ct} {σ : L2.St} {H : Hp} {Dn : Ends} : ∀ (n : Nat) {w : Wd} {ρ : Env} {h : Hd}, ER c w ρ σ → SR c w h H → PostS c w W (whileN ta b n ρ h) Dn → tWhile (tT c W ta) (tS c W b) Dn σ H := fun n w ρ h e s p => by
  refine ⟨fun m σ H => ∃ w ρ h, ER c w ρ σ ∧ SR c w h H ∧ PostS c w W (whileN ta b m ρ h) Dn, ⟨n, w, ρ, h, e, s, p⟩, ?_⟩
  rintro m σ1 H1 ⟨w, ρ, h, e, s, p⟩
  cases m with
  | zero => exact p.elim
  | succ m =>
    refine (tS.lift (R := RB) ⟨w, ρ, h, e, s, p⟩).mono ?_
    rintro v H2 ⟨w2, ρ2, h2, d, e2, s2, r2, p2⟩
    cases r2
    cases v with
    | false => exact p2.nx e2 s2
    | true =>
      refine ⟨fun σ' H' => ∃ w ρ h, ER c w ρ σ' ∧ SR c w h H' ∧ PostS c w W (whileN ta b m ρ h) Dn, fun σ' H' q => ⟨m, Nat.lt_succ_self _, q⟩, w2, ρ2, h2, e2, s2, ?_⟩
      have p' : PostS c w2 W (afterB (whileN ta b m) (b ρ2 h2)) Dn := p2
      cases q2 : b ρ2 h2 with
      | nx ρ3 h3 => rw [q2] at p'; exact fun σ3 w3 H3 l3 e3 s3 => ⟨w3, ρ3, h3, e3, s3, PostS.le l3 p'⟩
      | ct ρ3 h3 => rw [q2] at p'; exact fun σ3 w3 H3 l3 e3 s3 => ⟨w3, ρ3, h3, e3, s3, PostS.le l3 p'⟩
      | bk ρ3 h3 => rw [q2] at p'; exact p'
      | rt d h3 => rw [q2] at p'; exact p'
      | exc x ρ3 h3 => rw [q2] at p'; exact p'
      | bad => rw [q2] at p'; exact p'
theorem s_while (ht : ST X W a ta) (hb : SSs X W body b) (hp : PassesOwn (model X.prog X.w) X.A X.env X.xe) : SS X W (.While a body [] pos) (mWhile ta b) := PS.imp (ps_while hp ht hb) fun Dn σ H ⟨w, ρ, h, e, s, p⟩ => by
  unfold mWhile at p
  split at p
  · exact whileN_rd _ e s p
  · exact p.elim
theorem whileN_more {t : MT} {b : MS} : ∀ {n : Nat} {ρ : Env} {h : Hd}, whileN t b n ρ h ≠ .bad → whileN t b (n + 1) ρ h = whileN t b n ρ h
  | 0, ρ, h, q => absurd rfl q
  | n + 1, ρ, h, q => by
    have q' : liftR t (fun k ρ h => if k then afterB (whileN t b n) (b ρ h) else .nx ρ h) ρ h ≠ .bad := q
    show liftR t (fun k ρ h => if k then afterB (whileN t b (n + 1)) (b ρ h) else .nx ρ h) ρ h = liftR t (fun k ρ h => if k then afterB (whileN t b n) (b ρ h) else .nx ρ h) ρ h
    unfold liftR at q' ⊢
    cases e1 : t ρ h with
    | ok k h1 =>
      rw [e1] at q'
      cases k with
      | false => rfl
      | true =>
        have q2 : afterB (whileN t b n) (b ρ h1) ≠ .bad := q'
        show afterB (whileN t b (n + 1)) (b ρ h1) = afterB (whileN t b n) (b ρ h1)
        cases e : b ρ h1 with
        | nx ρ2 h2 => rw [e] at q2; exact whileN_more (n := n) q2
        | ct ρ2 h2 => rw [e] at q2; exact whileN_more (n := n) q2
        | _ => rfl
    | exc x h1 => rfl
    | bad => rfl
theorem whileN_le {t : MT} {b : MS} {n m : Nat} {ρ : Env} {h : Hd} (q : whileN t b n ρ h ≠ .bad) (l : n ≤ m) : whileN t b m ρ h = whileN t b n ρ h := by
  induction l with
  | refl => rfl
  | step l ih => rw [whileN_more (by rw [ih]; exact q), ih]
/-- the answer of n turns -/
theorem mWhile_eq {t : MT} {b : MS} {n : Nat} {ρ : Env} {h : Hd} (q : whileN t b n ρ h ≠ .bad) : mWhile t b ρ h = whileN t b n ρ h := by
  have ex : ∃ n, whileN t b n ρ h ≠ .bad := ⟨n, q⟩
  unfold mWhile
  rw [dif_pos ex]
  rcases Nat.le_total n ex.choose with l | l
  · exact whileN_le q l
  · exact (whileN_le ex.choose_spec l).symm
def W0 : WX := fun _ _ _ _ => False
def noX {α : Type} (m : Env → Hd → Res α) : Env → Hd → Res α := fun ρ h => match m ρ h with
  | .exc _ _ => .bad
  | r => r
noncomputable def lcGo (chk : Hd → Prop) (g : MG) (t : MT) (e : ME) (ρ : Env) : List D → List D → Hd → Res (List D)
  | [], acc, h => if chk h then .ok acc h else .bad
  | d :: ds, acc, h => if chk h then ((noX (g d) ρ h).bind fun ρ1 h1 => (noX t ρ1 h1).bind fun k h2 => if k then ((noX e ρ1 h2).bind fun y h3 => if acc.length < sizeLine then lcGo chk g t e ρ ds (acc ++ [y]) h3 else .bad) else lcGo chk g t e ρ ds acc h2) else .bad
noncomputable def mLc (vs : List Nat) (mi : MI) (g : MG) (t : MT) (e : ME) : Env → Hd → Res O := fun ρ h => (mi ρ h).bind fun s h => (lcGo s.chk g t e (wipeD ρ vs) s.items [] h).bind fun ds h => .ok (.new (.lst ds)) h
def tYesM : MT := fun _ h => .ok true h
def STs (X : Cx) (W : WX) (ifs : List Expr) (m : MT) : Prop := PTs X ifs (tT (Cx.ct X) W m)
theorem PTs.imp {X : Cx} {e : List Expr} {t t' : TT} (h : PTs X e t) (i : ∀ σ H Q, t' σ H Q → t σ H Q) : PTs X e t' := ⟨fun pins s σ H Q I q => h.run pins s σ H Q I (i _ _ _ q)⟩
theorem ts_nil : STs X W [] tYesM := PTs.imp pts_nil fun σ H Q ⟨w, ρ, h, e, s, p⟩ => p.ret rfl s
theorem ts_one (h : ST X W a ta) : STs X W [a] ta := pts_one h
end
theorem Post.W {α β : Type} {R : Wd → Hp → α → β → Prop} {c : Ct} {w : Wd} {W W' : WX} {σ : L2.St} {r : Res α} {Q : β → Hp → Prop} (p : Post R c w W σ r Q) (n : ∀ x h, r ≠ .exc x h) : Post R c w W' σ r Q := by
  cases r with
  | ok a h => exact p
  | exc x h => exact absurd rfl (n x h)
  | bad => exact p
theorem Le0.P (w : Wd) (P : Hp) : Le0 w { w with P := P } := ⟨fun _ _ q => q, fun _ _ q => q⟩
/-- something pinned -/
def Wd.pinAt (w : Wd) (a : Addr) (o : HO) : Wd := { w with P := upd w.P a o }
theorem SR.pinned {c : Ct} {w : Wd} {h : Hd} {H : Hp} {a : Addr} {o : HO} (s : SR c w h H) (f : FreshAt w a) (e : H a = some o) (n : pinO o) : SR c (w.pinAt a o) h H where
  F := s.F
  P := fun b u q => by
    have q' : upd w.P a o b = some u := q
    by_cases hb : b = a
    · subst hb; rw [upd_same] at q'; cases q'; exact e
    · rw [upd_ne hb] at q'; exact s.P b u q'
  pin := fun b u q => by
    have q' : upd w.P a o b = some u := q
    by_cases hb : b = a
    · subst hb; exact ⟨f.F, fun r z => absurd z (f.φ r)⟩
    · rw [upd_ne hb] at q'; exact s.pin b u q'
  cell := fun r z q g => by
    obtain ⟨b, q1, q2, q3, q4⟩ := s.cell r z q g
    refine ⟨b, q1, q2, ?_, q4.le0 (Le0.P w _) rfl⟩
    show (upd w.P a o b).isSome = _
    rw [upd_ne (by rintro rfl; exact f.φ r q1)]; exact q3
  inj := s.inj
  dom := s.dom
  ng := s.ng
  tab := by
    have ne := s.tab.ne (a := a) fun ps z => n.1.1 ps (Option.some.inj (e.symm.trans z))
    refine ⟨fun P l => ?_, s.tab.nF, fun b u q => ?_⟩
    · obtain ⟨e1, q1, q2, q3⟩ := s.tab.tb P l
      exact ⟨e1, q1, by show upd w.P a o P = none; rw [upd_ne (ne P l)]; exact q2, q3⟩
    · have q' : upd w.P a o b = some u := q
      by_cases hb : b = a
      · subst hb; rw [upd_same] at q'; cases q'; exact n
      · rw [upd_ne hb] at q'; exact s.tab.nP b u q'
/-- what is pinned is written -/
theorem SR.repin {c : Ct} {w : Wd} {h : Hd} {H : Hp} {a : Addr} {o u : HO} (s : SR c w h H) (e : w.P a = some o) (n : pinO u) (nf : isFz o = false := by rfl) : SR c { w with P := upd w.P a u } h (upd H a u) where
  F := fun b v q => by rw [upd_ne (by rintro rfl; rw [(s.pin b o e).1] at q; cases q)]; exact s.F b v q
  P := fun b v q => by
    have q' : upd w.P a u b = some v := q
    by_cases hb : b = a
    · subst hb; rw [upd_same] at q' ⊢; exact q'
    · rw [upd_ne hb] at q' ⊢; exact s.P b v q'
  pin := fun b v q => by
    have q' : upd w.P a u b = some v := q
    by_cases hb : b = a
    · subst hb; exact ⟨(s.pin b o e).1, fun r z => absurd ((s.pin b o e).2 r z).1 (by rw [nf]; exact Bool.false_ne_true)⟩
    · rw [upd_ne hb] at q'; exact s.pin b v q'
  cell := fun r z q g => by
    obtain ⟨b, q1, q2, q3, q4⟩ := s.cell r z q g
    have hb : b ≠ a := by rintro rfl; exact absurd ((s.pin b o e).2 r q1).1 (by rw [nf]; exact Bool.false_ne_true)
    refine ⟨b, q1, q2, ?_, q4.le0 (Le0.P w _) (upd_ne hb)⟩
    show (upd w.P a u b).isSome = _
    rw [upd_ne hb]; exact q3
  inj := s.inj
  dom := fun r b q => by
    obtain ⟨x, v, y⟩ := s.dom r b q
    exact ⟨x, v, by rw [upd_ne (by rintro rfl; exact absurd ((s.pin b o e).2 r q).1 (by rw [nf]; exact Bool.false_ne_true))]; exact y⟩
  ng := s.ng
  tab := by
    have ne : ∀ P, lawTab c.K c.mg P → P ≠ a := fun P l z => by
      have := (s.tab.tb P l).2.2.1
      rw [z, e] at this
      cases this
    have t := s.tab.upd ne u
    refine ⟨fun P l => ?_, s.tab.nF, fun b v q => ?_⟩
    · obtain ⟨e1, q1, q2, q3⟩ := t.tb P l
      exact ⟨e1, q1, by show upd w.P a u P = none; rw [upd_ne (ne P l)]; exact q2, q3⟩
    · have q' : upd w.P a u b = some v := q
      by_cases hb : b = a
      · subst hb; rw [upd_same] at q'; cases q'; exact n
      · rw [upd_ne hb] at q'; exact s.tab.nP b v q'
theorem SR.unpin {c : Ct} {w : Wd} {h : Hd} {H : Hp} {a : Addr} {o : HO} {P0 : Hp} (s : SR c w h H) (e : w.P = upd P0 a o) (n : P0 a = none) (nf : isFz o = false := by rfl) : SR c { w with P := P0 } h H ∧ FreshAt { w with P := P0 } a ∧ H a = some o := by
  have ea : w.P a = some o := by rw [e, upd_same]
  have sub : ∀ b u, P0 b = some u → w.P b = some u := fun b u q => by rw [e, upd_ne (by rintro rfl; rw [n] at q; cases q)]; exact q
  refine ⟨⟨s.F, fun b u q => s.P b u (sub b u q), fun b u q => s.pin b u (sub b u q), fun r z q g => ?_, s.inj, s.dom, ?_, s.ng⟩, ⟨(s.pin a o ea).1, n, fun r z => absurd ((s.pin a o ea).2 r z).1 (by rw [nf]; exact Bool.false_ne_true)⟩, s.P a o ea⟩
  obtain ⟨b, q1, q2, q3, q4⟩ := s.cell r z q g
  refine ⟨b, q1, q2, ?_, q4.le0 (Le0.P w _) rfl⟩
  show (P0 b).isSome = _
  rw [← q3, e, upd_ne (by rintro rfl; exact absurd ((s.pin b o ea).2 r q1).1 (by rw [nf]; exact Bool.false_ne_true))]
  refine ⟨fun P l => ?_, s.tab.nF, fun b u q => s.tab.nP b u (sub b u q)⟩
  obtain ⟨e1, q1, q2, q3⟩ := s.tab.tb P l
  refine ⟨e1, q1, ?_, q3⟩
  show P0 P = none
  cases q : P0 P with
  | none => rfl
  | some u => rw [sub P u q] at q2; cases q2
section
variable {X : Cx} {W : WX} {pos : Pos}
theorem lc_rd {ct : Ct} {vs : List Nat} {mi : MI} {g : MG} {t : MT} {e : ME} {ix : List Nat} (hix : ∀ i ∈ ix, i ∈ vs) {σ : L2.St} {H : Hp} {Q : VK} (q : tP (RO ct) ct W (mLc vs mi g t e) σ H Q) : tLc (tI ct W mi) (tG ct W0 ix g) (tT ct W0 t) (tE ct W0 e) vs σ H Q := by
  refine (tP.bind q).mono fun J H1 ⟨w1, ρ, h1, s, e1, s1, k1, p1⟩ D hD => ?_
  obtain ⟨G, Y, wk, hG, hY⟩ := id k1
  have f0 := FreshAt.of s1 hD
  have sD : SR ct (w1.pinAt D (.lst [])) h1 (upd H1 D (.lst [])) := (s1.laid hD _).pinned f0 upd_same (pin_lst _)
  refine lc_it wk (fun i H' => ∃ w h acc ds, Le0 w1 w ∧ w.P = upd w1.P D (.lst acc) ∧ SR ct w h H' ∧ VRs ct w ds acc ∧ Post (RO ct) ct w1 W σ ((lcGo s.chk g t e (wipeD ρ vs) (s.items.drop i) ds h).bind fun ds h => .ok (.new (.lst ds)) h) Q)
    ⟨w1.pinAt D (.lst []), h1, [], [], ⟨fun _ _ q => q, fun _ _ q => q⟩, rfl, sD, .nil, p1⟩ ?_ ?_ ?_
  · rintro i H' hi ⟨w, h, acc, ds, l, eP, sr, r, p⟩
    refine hG w h H' (le1_of l eP f0.P) sr ?_
    by_cases ck : s.chk h
    · exact ck
    · exfalso
      cases q : s.items.drop i with
      | nil => rw [q] at p; simp only [lcGo, if_neg ck] at p; exact p
      | cons d ds => rw [q] at p; simp only [lcGo, if_neg ck] at p; exact p
  · rintro i x H' H'' hi ⟨w, h, acc, ds, l, eP, sr, r, p⟩ y
    have hd : s.items.drop i = s.items[i] :: s.items.drop (i + 1) := List.drop_eq_getElem_cons hi
    rw [hd] at p
    simp only [lcGo] at p
    by_cases ck : s.chk h
    · rw [if_pos ck] at p
      obtain ⟨w3, d, l3, sr3, ed, r3⟩ := hY i x H' H'' w h hi (le1_of l eP f0.P) sr ck y
      rw [List.getElem?_eq_getElem hi] at ed
      cases ed
      have e3 : ER ct w3 (wipeD ρ vs) (wipe σ vs) := ((e1.le0 l).le l3).wipe vs
      refine ⟨w3, wipeD ρ vs, h, s.items[i], e3, sr3, r3, ?_⟩
      -- the target
      cases q1 : g s.items[i] (wipeD ρ vs) h with
      | bad => simp only [noX, q1, Res.bind] at p; exact p.elim
      | exc x h1 => simp only [noX, q1, Res.bind] at p; exact p.elim
      | ok ρ1 h1 =>
        refine fun σ2 w4 H2 l4 e4 sr4 x4 => ⟨(x4.mono hix).wipe.trans ?_, w4, ρ1, h1, e4, sr4, ?_⟩
        · have : ∀ (vs : List Nat) (σ : L2.St), wipe (wipe σ vs) vs = wipe σ vs := fun vs σ => Eqx.wipe (σ := σ) (σ1 := wipe σ vs) ⟨wipe_length _ _, fun i h => wipe_out h⟩
          exact this vs σ
        · have pg : Post (RO ct) ct w1 W σ (((noX t ρ1 h1).bind fun k h2 => if k then ((noX e ρ1 h2).bind fun y h3 => if ds.length < sizeLine then lcGo s.chk g t e (wipeD ρ vs) (s.items.drop (i + 1)) (ds ++ [y]) h3 else .bad) else lcGo s.chk g t e (wipeD ρ vs) (s.items.drop (i + 1)) ds h2).bind fun ds h => .ok (.new (.lst ds)) h) Q := by
            simpa only [noX, q1, Res.bind] using p
          cases q2 : t ρ1 h1 with
          | bad => simp only [noX, q2, Res.bind] at pg; exact pg.elim
          | exc x h1 => simp only [noX, q2, Res.bind] at pg; exact pg.elim
          | ok k h2 =>
            intro k' w5 H3 l5 ek sr5
            cases ek
            have eP5 : w5.P = upd w1.P D (.lst acc) := l5.P.trans (l4.P.trans (l3.P.trans eP))
            have l05 : Le0 w w5 := l3.toLe0.trans (l4.toLe0.trans l5.toLe0)
            have pt : Post (RO ct) ct w1 W σ ((if k = true then ((noX e ρ1 h2).bind fun y h3 => if ds.length < sizeLine then lcGo s.chk g t e (wipeD ρ vs) (s.items.drop (i + 1)) (ds ++ [y]) h3 else .bad) else lcGo s.chk g t e (wipeD ρ vs) (s.items.drop (i + 1)) ds h2).bind fun ds h => .ok (.new (.lst ds)) h) Q := by
              simpa only [noX, q2, Res.bind] using pg
            cases k with
            | false => exact ⟨w5, h2, acc, ds, l.trans l05, eP5, sr5, r.le0 l05, pt⟩
            | true =>
              refine ⟨w5, ρ1, h2, e4.le l5, sr5, ?_⟩
              simp only [if_true] at pt
              cases q3 : e ρ1 h2 with
              | bad => simp only [noX, q3, Res.bind] at pt; exact pt.elim
              | exc x h1 => simp only [noX, q3, Res.bind] at pt; exact pt.elim
              | ok y h3 =>
                intro v w6 H4 l6 r6 sr6
                have pe : Post (RO ct) ct w1 W σ ((if ds.length < sizeLine then lcGo s.chk g t e (wipeD ρ vs) (s.items.drop (i + 1)) (ds ++ [y]) h3 else .bad).bind fun ds h => .ok (.new (.lst ds)) h) Q := by
                  simpa only [noX, q3, Res.bind] using pt
                split at pe
                · rename_i hz
                  have eP6 : w6.P = upd w1.P D (.lst acc) := l6.P.trans eP5
                  have l06 : Le0 w w6 := l05.trans l6.toLe0
                  have hDw : w6.P D = some (.lst acc) := by rw [eP6, upd_same]
                  refine ⟨acc, sr6.P D _ hDw, by rw [← r.len]; exact hz, ⟨w6.F, upd w6.P D (.lst (acc ++ [v])), w6.φ⟩, h3, acc ++ [v], ds ++ [y], ⟨fun a o q => l06.F a o (l.F a o q), fun a o q => l06.φ a o (l.φ a o q)⟩, ?_, sr6.repin hDw (pin_lst _), ?_, pe⟩
                  · show upd w6.P D (.lst (acc ++ [v])) = upd w1.P D (.lst (acc ++ [v]))
                    rw [eP6, upd_upd]
                  · exact VRs.le0 (Le0.P w6 _) ((r.le0 l06).append (.one r6))
                · exact pe.elim
    · rw [if_neg ck] at p; exact p.elim
  · rintro H' ⟨w, h, acc, ds, l, eP, sr, r, p⟩
    rw [List.drop_length] at p
    simp only [lcGo] at p
    split at p
    · obtain ⟨sr', f', eD⟩ := sr.unpin eP f0.P
      exact p (.ref D) { w with P := w1.P } H' ⟨⟨l.F, l.φ⟩, rfl⟩ ⟨by intro z; (cases z), D, rfl, f', acc, eD, r.le0 (Le0.P w _)⟩ sr'
    · exact p.elim
theorem e_lc {elt tg iter : Expr} {ifs : List Expr} {scope : Scope} {own : List (Str × Nat)} {mi : MI} {g : MG} {t : MT} {e : ME} {ix vs : List Nat} (hc : X.calm = true) (hN : X.N.Nodup) (hi : SI X W tg iter mi) (ok : BlkOk X.N X.env.scope scope own)
    (hg : ∀ (s : Shared) (H : Hp) (C : Addr) (cl : List (Str × Addr)) (fp : List Addr), SG (X.blk s H scope (compEnvC scope cl C X.env) fp) W0 ix tg g) (ht : ∀ (s : Shared) (H : Hp) (C : Addr) (cl : List (Str × Addr)) (fp : List Addr), STs (X.blk s H scope (compEnvC scope cl C X.env) fp) W0 ifs t)
    (he : ∀ (s : Shared) (H : Hp) (C : Addr) (cl : List (Str × Addr)) (fp : List Addr), SE (X.blk s H scope (compEnvC scope cl C X.env) fp) W0 elt e) (hix : ∀ i ∈ ix, i ∈ own.map (·.2) := by decide) (hs : ∀ x, foldedSetIterable iter X.env x = pure x := by intro _; rfl) (hv : own.map (·.2) = vs := by rfl) :
    SO X W (.ListComp elt [⟨tg, iter, ifs, 0⟩] scope pos) (mLc vs mi g t e) := by
  subst hv
  exact PE.imp (pe_lc (g := tG (Cx.ct X) W0 ix g) (tt := tT (Cx.ct X) W0 t) (te := tE (Cx.ct X) W0 e) hc hN hi ok hg ht he hs) fun σ H Q q => lc_rd hix q
end
def aNil : MA := fun _ h => .ok [] h
def aCons (m : ME) (r : MA) : MA := fun ρ h => (m ρ h).bind fun d h => (r ρ h).bind fun ds h => .ok (d :: ds) h
def mTup (m : MA) : ME := fun ρ h => (m ρ h).bind fun ds h => if ds.length ≤ sizeLine then .ok (.tup ds) h else .bad
def mLst (m : MA) : Env → Hd → Res O := fun ρ h => (m ρ h).bind fun ds h => if ds.length ≤ sizeLine then .ok (.new (.lst ds)) h else .bad
theorem new_tup {c : Ct} {w : Wd} {h : Hd} {H : Hp} {ds : List D} {vs : List V} {p : Addr} (s : SR c w h H) (r : VRs c w ds vs) (hp : H p = none) : ∃ w', Le w w' ∧ SR c w' h (upd H p (.tup vs)) ∧ VR c w' (.tup ds) (.ref p) := by
  obtain ⟨l, s'⟩ := (s.laid hp (.tup vs)).fz (FreshAt.of s hp) upd_same (plain_tup _)
  exact ⟨_, l, s', by simp only [VR]; exact ⟨p, vs, rfl, (by show upd w.F p _ p = _; exact upd_same), r.le l⟩⟩
theorem new_obj {c : Ct} {w : Wd} {h : Hd} {H : Hp} {z : Cell} {o : HO} {p : Addr} (s : SR c w h H) (hp : H p = none) (g : ¬ deadC z) (k : CellOk c w (upd H p o) p z) : SR c w h (upd H p o) ∧ RO c w (upd H p o) (.new z) (.ref p) :=
  ⟨s.laid hp o, g, p, rfl, FreshAt.of s hp, k⟩
section
variable {X : Cx} {W : WX} {e a b : Expr} {es : List Expr} {ma mb : ME} {mas : MA} {ta tb : MT} {pos : Pos}
theorem a_nil : SA X W [] aNil := PA.imp pa_nil fun σ H Q ⟨w, ρ, h, e, s, p⟩ => p.ret .nil s
theorem a_cons (ha : SE X W a ma) (hr : SA X W es mas) (hs : starEach (a :: es) X.env = (false, eval a X.env) :: starEach es X.env := by rfl) : SA X W (a :: es) (aCons ma mas) := PA.imp (pa_cons ha hr hs) fun σ H Q q => by
  refine (tP.bind q).mono fun v H1 ⟨w1, ρ, h1, d, e1, s1, r1, p1⟩ => ?_
  refine ⟨w1, ρ, h1, e1, s1, (Post.bind p1).mono fun vs H2 ⟨w2, h2, ds, l2, r2, s2, p2⟩ => ?_⟩
  exact p2.ret (.cons (r1.le l2) r2) s2
theorem e_tup {k} (ha : SA X W es mas) : SE X W (.Tuple es k pos) (mTup mas) := PE.imp (pe_tup ha) fun σ H Q q => by
  refine (tP.bind q).mono fun vs H1 ⟨w1, ρ, h1, ds, e1, s1, r1, p1⟩ => ?_
  split at p1
  · rename_i hz
    refine ⟨by rw [← r1.len]; exact hz, fun p hp => ?_⟩
    obtain ⟨w2, l, s2, r2⟩ := new_tup s1 r1 hp
    exact p1 _ w2 _ l r2 s2
  · exact p1.elim
theorem e_lst (ha : SA X W es mas) : SO X W (.List es pos) (mLst mas) := PE.imp (pe_lst ha) fun σ H Q q => by
  refine (tP.bind q).mono fun vs H1 ⟨w1, ρ, h1, ds, e1, s1, r1, p1⟩ => ?_
  split at p1
  · rename_i hz
    refine ⟨by rw [← r1.len]; exact hz, fun p hp => ?_⟩
    obtain ⟨s2, r2⟩ := new_obj (z := .lst ds) s1 hp (by intro z; cases z) ⟨vs, upd_same, r1⟩
    exact p1 _ w1 _ (.refl _) r2 s2
  · exact p1.elim
def ixF (h : Hd) : D → D → Option D
  | .str s, .int i => if s.length ≤ sizeLine then (atI s.cps.toList i).map fun c => .str ⟨#[c]⟩ else none
  | d, .int i => (seqOf h d).bind fun xs => atI xs i
  | _, _ => none
def mIx (ma mb : ME) : ME := fun ρ h => (ma ρ h).bind fun x h => (mb ρ h).bind fun y h => optR (ixF h x y) h
theorem atI_rel {c : Ct} {w : Wd} {xs : List D} {vs : List V} {i : Int} {d : D} (r : VRs c w xs vs) (e : atI xs i = some d) : ∃ v, atI vs i = some v ∧ VR c w d v := by
  unfold atI at e ⊢
  rw [r.len] at e
  cases q : ixN vs.length i with
  | none => rw [q] at e; cases e
  | some j =>
    rw [q] at e
    exact r.get (show xs[j]? = some d from e)
theorem ixF_seq {h : Hd} {d : D} {i : Int} (n : ∀ s, d ≠ .str s) : ixF h d (.int i) = (seqOf h d).bind fun xs => atI xs i := by
  cases d <;> first | rfl | exact absurd rfl (n _)
theorem ix_ok {c : Ct} {w : Wd} {h : Hd} {H : Hp} {x y : V} {dx dy d : D} {Q : VK} (s : SR c w h H) (rx : VR c w dx x) (ry : VR c w dy y) (e : ixF h dx dy = some d) (q : ∀ v, VR c w d v → Q v H) : rIx c.K x y H Q := by
  cases dy with
  | int i =>
    simp only [VR] at ry; subst ry
    have seq : (∀ z, dx ≠ .str z) → rIx c.K x (.int i) H Q := fun n => by
      rw [ixF_seq n, Option.bind_eq_some_iff] at e
      obtain ⟨xs, e1, e2⟩ := e
      obtain ⟨a, vs, rfl, hq, r⟩ := seqOf_ok s rx e1
      obtain ⟨v, e3, r3⟩ := atI_rel r e2
      rcases hq with hq | hq
      · exact .inl ⟨a, vs, i, v, rfl, rfl, hq, e3, q v r3⟩
      · exact .inr (.inl ⟨a, vs, i, v, rfl, rfl, hq, e3, q v r3⟩)
    cases dx with
    | str z =>
      simp only [VR] at rx; subst rx
      simp only [ixF] at e
      split at e
      · rename_i hz
        cases ec : atI z.cps.toList i with
        | none => rw [ec] at e; cases e
        | some cc =>
          rw [ec] at e; cases e
          exact .inr (.inr ⟨z, i, cc, rfl, rfl, hz, ec, q _ (by simp only [VR])⟩)
      · cases e
    | _ => exact seq (fun _ q => by cases q)
  | _ => cases dx <;> simp [ixF] at e
theorem e_ix (ha : SE X W a ma) (hb : SE X W b mb) (hs : PlainIx b := by intro _ _; rfl) : SE X W (.Subscript a b pos) (mIx ma mb) := PE.imp (pe_ix ix_seq ha hb hs) fun σ H Q q => by
  refine (tP.bind q).mono fun v H1 ⟨w1, ρ, h1, d, e1, s1, r1, p1⟩ => ?_
  refine ⟨w1, ρ, h1, e1, s1, (Post.bind p1).mono fun u H2 ⟨w2, h2, d2, l2, r2, s2, p2⟩ => ?_⟩
  obtain ⟨d3, e3, p3⟩ := optR_post p2
  exact ix_ok (c := Cx.ct X) s2 (r1.le l2) r2 e3 fun v r => p3.ret r s2
abbrev MO := Env → Hd → Res (Option Int)
def oNone : MO := fun _ h => .ok none h
def oSome (m : ME) : MO := fun ρ h => (m ρ h).bind fun d h => match d with
  | .int i => .ok (some i) h
  | _ => .bad
abbrev RI : Wd → Hp → Option Int → Option Int → Prop := fun _ _ a b => a = b
def SOp (X : Cx) (W : WX) (e : Option Expr) (m : MO) : Prop := PO X e (tP RI (Cx.ct X) W m)
theorem PO.imp {X : Cx} {e : Option Expr} {t t' : TO} (h : PO X e t) (i : ∀ σ H Q, t' σ H Q → t σ H Q) : PO X e t' := ⟨fun pins s σ H Q I q => h.run pins s σ H Q I (i _ _ _ q)⟩
theorem o_none : SOp X W none oNone := PO.imp po_none fun σ H Q ⟨w, ρ, h, e, s, p⟩ => p.ret rfl s
theorem o_some (ha : SE X W a ma) : SOp X W (some a) (oSome ma) := PO.imp (po_some ha) fun σ H Q q => by
  refine (tP.bind q).mono fun v H1 ⟨w1, ρ, h1, d, e1, s1, r1, p1⟩ => ?_
  cases d with
  | int i => simp only [VR] at r1; exact ⟨i, r1, p1.ret rfl s1⟩
  | _ => exact p1.elim
def cutL {α : Type} (xs : List α) (lo hi : Option Int) : List α := (xs.drop (HT.sIx xs.length 0 lo)).take (HT.sIx xs.length xs.length hi - HT.sIx xs.length 0 lo)
theorem cutL_rel {c : Ct} {w : Wd} {xs : List D} {vs : List V} (r : VRs c w xs vs) (lo hi : Option Int) : VRs c w (cutL xs lo hi) (cutV vs lo hi) := by
  unfold cutL cutV
  rw [r.len]
  exact (r.drop _).take _
def slF (h : Hd) (d : D) (lo hi : Option Int) : Option O := match d with
  | .str s => if s.length ≤ sizeLine then some (.val (.str (cutS s lo hi))) else none
  | .tup xs => some (.val (.tup (cutL xs lo hi)))
  | .rol xs => some (.new (.lst (cutL xs lo hi)))
  | .lst xs => some (.new (.lst (cutL xs lo hi)))
  | .ref r => (lstOf h (.ref r)).map fun xs => .new (.lst (cutL xs lo hi))
  | _ => none
def mSl (m : ME) (ml mh : MO) : Env → Hd → Res O := fun ρ h => (m ρ h).bind fun d h => (ml ρ h).bind fun lo h => (mh ρ h).bind fun hi h => optR (slF h d lo hi) h
theorem sl_ok {c : Ct} {w : Wd} {W : WX} {σ : L2.St} {h : Hd} {H : Hp} {x : V} {d : D} {lo hi : Option Int} {o : O} {Q : VK} (s : SR c w h H) (r : VR c w d x) (e : slF h d lo hi = some o) (p : Post (RO c) c w W σ (.ok o h) Q) :
    rSlL c.K x lo hi H Q ∨ rSlA c.K x lo hi H Q ∨ rSlS x lo hi H Q := by
  have newL : ∀ a vs xs, SqL c.K H a vs → VRs c w xs vs → o = .new (.lst (cutL xs lo hi)) → x = .ref a → rSlL c.K x lo hi H Q := by
    rintro a vs xs hq z rfl rfl
    refine ⟨a, vs, rfl, hq, fun q hp => ?_⟩
    obtain ⟨s2, r2⟩ := new_obj (z := .lst (cutL xs lo hi)) s hp (by intro z; cases z) ⟨_, upd_same, cutL_rel z lo hi⟩
    exact p _ w _ (.refl _) r2 s2
  cases d with
  | str z =>
    simp only [VR] at r; subst r
    simp only [slF] at e
    split at e
    · rename_i hz; cases e
      exact .inr (.inr ⟨z, rfl, hz, p.ret (by simp only [RO, VR]) s⟩)
    · cases e
  | tup xs =>
    simp only [VR] at r
    obtain ⟨a, vs, rfl, q, z⟩ := r
    simp only [slF, Option.some.injEq] at e; subst e
    refine .inr (.inl ⟨a, vs, rfl, SqT_le s.F q, fun hw => ?_, fun hw q' hp => ?_⟩)
    · refine p.ret ?_ s
      simp only [RO, VR]
      refine ⟨a, vs, rfl, q, ?_⟩
      have : cutL xs lo hi = xs := by
        unfold cutL
        rw [z.len, hw.1, hw.2, List.drop_zero, ← z.len]
        exact List.take_length
      rw [this]; exact z
    · obtain ⟨w2, l, s2, r2⟩ := new_tup s (cutL_rel z lo hi) hp
      exact p _ w2 _ l r2 s2
  | rol xs =>
    simp only [VR] at r
    obtain ⟨a, vs, rfl, q, z⟩ := r
    simp only [slF, Option.some.injEq] at e
    exact .inl (newL a vs xs (SqL_le s.F q) z e.symm rfl)
  | lst xs =>
    simp only [VR] at r
    obtain ⟨a, vs, rfl, q, z⟩ := r
    simp only [slF, Option.some.injEq] at e
    exact .inl (newL a vs xs (SqL.of (s.F _ _ q)) z e.symm rfl)
  | ref k =>
    simp only [slF, Option.map_eq_some_iff] at e
    obtain ⟨xs, e1, e2⟩ := e
    obtain ⟨a, vs, rfl, q, z⟩ := lstOf_ok s r e1
    exact .inl (newL a vs xs (SqL.of q) z e2.symm rfl)
  | _ => simp [slF] at e
theorem e_sl {lo hi : Option Expr} {ml mh : MO} {p2 : Pos} (ha : SE X W a ma) (hl : SOp X W lo ml) (hh : SOp X W hi mh) : SO X W (.Subscript a (.Slice lo hi none p2) pos) (mSl ma ml mh) :=
  PE.imp (pe_slice (sl_list.or (sl_tupA.or sl_str)) ha hl hh) fun σ H Q q => by
  refine (tP.bind q).mono fun v H1 ⟨w1, ρ, h1, d, e1, s1, r1, p1⟩ => ?_
  refine ⟨w1, ρ, h1, e1, s1, (Post.bind p1).mono fun i H2 ⟨w2, h2, d2, l2, r2, s2, p2⟩ => ?_⟩
  cases r2
  refine ⟨w2, ρ, h2, e1.le l2, s2, (Post.bind p2).mono fun j H3 ⟨w3, h3, d3, l3, r3, s3, p3⟩ => ?_⟩
  cases r3
  obtain ⟨o, eo, p4⟩ := optR_post p3
  exact sl_ok s3 (r1.le (l2.trans l3)) eo p4
def setF (o i v : D) (h : Hd) : Option Hd := match o, i with
  | .ref r, .int k => match h[r]? with
    | some (.lst xs) => (ixN xs.length k).map fun j => h.set r (.lst (xs.set j v))
    | _ => none
  | _, _ => none
def gSub (mo mi : ME) : MG := fun d ρ h => (mo ρ h).bind fun o h => (mi ρ h).bind fun i h => match setF o i d h with
  | some h' => .ok ρ h'
  | none => .bad
theorem PostG.of {c : Ct} {w : Wd} {ix : List Nat} {σ : L2.St} {r : Res Env} {Q : L2.St → Hp → Prop} (p : PostG c w W ix σ r Q) : Post (fun w' _ (ρ : Env) σ' => ER c w' ρ σ' ∧ Eqx ix σ σ') c w W σ r Q := by
  cases r with
  | ok ρ h => exact fun σ' w' H' l x s => p σ' w' H' l x.1 s x.2
  | exc x h => exact p
  | bad => exact p
theorem set_ok {c : Ct} {w : Wd} {h h' : Hd} {H : Hp} {x y z : V} {dx dy dz : D} {Q : Hp → Prop} (s : SR c w h H) (rx : VR c w dx x) (ry : VR c w dy y) (rz : VR c w dz z) (e : setF dx dy dz h = some h') (q : ∀ H', SR c w h' H' → Q H') : rSetL x y z H Q := by
  cases dx with
  | ref r =>
    cases dy with
    | int k =>
      simp only [VR] at ry; subst ry
      simp only [setF] at e
      split at e
      · rename_i xs ex
        rw [Option.map_eq_some_iff] at e
        obtain ⟨j, ej, rfl⟩ := e
        obtain ⟨a, vs, rfl, hq, zr⟩ := lstOf_ok (xs := xs) s rx (by simp only [lstOf, ex])
        simp only [VR] at rx
        obtain ⟨a', ea, fa⟩ := rx
        cases ea
        refine ⟨a, vs, k, j, rfl, rfl, hq, by rw [← zr.len]; exact ej, q _ ?_⟩
        exact s.write ex (by intro z; cases z) fa ⟨_, upd_same, zr.set j rz⟩ (by intro z; cases z)
      · cases e
    | _ => simp [setF] at e
  | _ => simp [setF] at e
theorem g_sub {o i : Expr} {mo mi : ME} (ho : SE X W o mo) (hi : SE X W i mi) (ha : ∀ v, assign (.Subscript o i pos) X.env v = (do
      let ov ← holding [v] (eval o X.env)
      let iv ← holding [v, ov] (eval i X.env)
      standAt pos
      holding [v, ov, iv] (setItem ov iv v)
      release [v, ov, iv] []) := by intro _; rfl) : SG X W [] (.Subscript o i pos) (gSub mo mi) := PG.imp (pg_sub ho hi set_list ha) fun v σ H Q ⟨w, ρ, h, d, e, s, r, p⟩ => by
  refine ⟨w, ρ, h, e, s, (Post.bind (PostG.of p)).mono fun o H1 ⟨w1, h1, d1, l1, r1, s1, p1⟩ => ?_⟩
  refine ⟨w1, ρ, h1, e.le l1, s1, (Post.bind p1).mono fun i H2 ⟨w2, h2, d2, l2, r2, s2, p2⟩ => ?_⟩
  cases es : setF d1 d2 d h2 with
  | none => rw [es] at p2; exact p2.elim
  | some h3 =>
    rw [es] at p2
    exact set_ok s2 (r1.le l2) r2 (r.le (l1.trans l2)) es fun H3 s3 => p2 σ w2 H3 (.refl _) ⟨e.le (l1.trans l2), .refl⟩ s3
end
mutual
def isPy : D → Bool
  | .non => true
  | .bl _ => true
  | .int _ => true
  | .str _ => true
  | .tup xs => isPys xs
  | .ktp xs => isPys xs
  | .lst xs => isPys xs
  | .rol xs => isPys xs
  | _ => false
def isPys : List D → Bool
  | [] => true
  | d :: ds => isPy d && isPys ds
end
mutual
def pyD : D → PyData
  | .non => .none
  | .bl b => .bool b
  | .int i => .int i
  | .str s => .str s
  | .tup xs => .tuple (pyDs xs)
  | .ktp xs => .tuple (pyDs xs)
  | .lst xs => .list (pyDs xs)
  | .rol xs => .list (pyDs xs)
  | _ => .none
def pyDs : List D → List PyData
  | [] => []
  | d :: ds => pyD d :: pyDs ds
end
mutual
theorem dp_of {c : Ct} {w : Wd} {h : Hd} {H : Hp} (s : SR c w h H) : ∀ {d : D} {v : V}, VR c w d v → isPy d = true → Dp c.K H v (pyD d)
  | .non, v, r, _ => by simp only [VR] at r; subst r; exact .non
  | .bl b, v, r, _ => by simp only [VR] at r; subst r; exact .bl b
  | .int i, v, r, _ => by simp only [VR] at r; subst r; exact .int i
  | .str x, v, r, _ => by simp only [VR] at r; subst r; exact .str x
  | .tup xs, v, r, e => by
    simp only [VR] at r
    obtain ⟨a, vs, rfl, q, z⟩ := r
    exact .tup (SqT_le s.F q) (dps_of s z (by simpa only [isPy] using e))
  | .lst xs, v, r, e => by
    simp only [VR] at r
    obtain ⟨a, vs, rfl, q, z⟩ := r
    exact .lst (SqL.of (s.F _ _ q)) (dps_of s z (by simpa only [isPy] using e))
  | .rol xs, v, r, e => by
    simp only [VR] at r
    obtain ⟨a, vs, rfl, q, z⟩ := r
    exact .lst (SqL_le s.F q) (dps_of s z (by simpa only [isPy] using e))
  | .dct _ _, _, _, e => by simp [isPy] at e
  | .dtt _ _, _, _, e => by simp [isPy] at e
  | .ktp xs, v, r, e => by
    simp only [VR] at r
    obtain ⟨a, vs, rfl, q, z⟩ := r
    exact .tup q.sq (dps_of s z (by simpa only [isPy] using e))
  | .ins _ _ _, _, _, e => by simp [isPy] at e
  | .ref _, _, _, e => by simp [isPy] at e
  | .glb _, _, _, e => by simp [isPy] at e
  | .ty _, _, _, e => by simp [isPy] at e
theorem dps_of {c : Ct} {w : Wd} {h : Hd} {H : Hp} (s : SR c w h H) : ∀ {ds : List D} {vs : List V}, VRs c w ds vs → isPys ds = true → DpAll c.K H vs (pyDs ds)
  | [], vs, r, _ => by simp only [VRs] at r; subst r; exact .nil
  | d :: ds, vs, r, e => by
    simp only [VRs] at r
    obtain ⟨v, us, rfl, r1, r2⟩ := r
    simp only [isPys, Bool.and_eq_true] at e
    exact .cons (dp_of s r1 e.1) (dps_of s r2 e.2)
end
def pyO (h : Hd) (d : D) : Option PyData := match d with
  | .ref r => match h[r]? with
    | some (.lst xs) => if isPys xs then some (.list (pyDs xs)) else none
    | _ => none
  | d => if isPy d then some (pyD d) else none
theorem pyO_ok {c : Ct} {w : Wd} {h : Hd} {H : Hp} {d : D} {v : V} {p : PyData} (s : SR c w h H) (r : VR c w d v) (e : pyO h d = some p) : Dp c.K H v p := by
  have gen : (if isPy d then some (pyD d) else none) = some p → Dp c.K H v p := fun e => by
    split at e
    · rename_i hp; cases e; exact dp_of s r hp
    · cases e
  cases d with
  | ref k =>
    simp only [pyO] at e
    split at e
    · rename_i xs ex
      split at e
      · rename_i hp
        cases e
        obtain ⟨a, vs, rfl, hq, zr⟩ := lstOf_ok (xs := xs) s r (by simp only [lstOf, ex])
        exact .lst (SqL.of hq) (dps_of s zr hp)
      · cases e
    · cases e
  | _ => exact gen e
def rEqM (K : PySem.W.Frag) (n : Bool) : R2 := fun x y H Q => ∃ d e, Dp K H x d ∧ Dp K H y e ∧ d.canLay0 = true ∧ e.canLay0 = true ∧ min d.depth e.depth ≤ 64 ∧ Q (.bl (if n then !PyData.eqv d e else PyData.eqv d e)) H
theorem op_eqM {X : Cx} (hu : X.A.units + 64 < cLine) : OpR X (compareOp .Eq) (rEqM X.K false) := by
  intro pins s σ H x y v u Q I rx ry h
  obtain ⟨d, e, hd, he, cd, ce, dm, q⟩ := h
  obtain ⟨as, r1⟩ := Dp.reads I d x v hd rx
  obtain ⟨bs, r2⟩ := Dp.reads I e y u he ry
  exact SeqAt.compareEq_reads r1 r2 cd ce (by omega) ⟨.bl _, H, I, rfl, q⟩
theorem op_neM {X : Cx} (hu : X.A.units + 64 < cLine) : OpR X (compareOp .NotEq) (rEqM X.K true) := by
  intro pins s σ H x y v u Q I rx ry h
  obtain ⟨d, e, hd, he, cd, ce, dm, q⟩ := h
  obtain ⟨as, r1⟩ := Dp.reads I d x v hd rx
  obtain ⟨bs, r2⟩ := Dp.reads I e y u he ry
  exact SeqAt.compareNe_reads r1 r2 cd ce (by omega) ⟨.bl _, H, I, rfl, q⟩
def scalV : D → Option V
  | .non => some .non
  | .bl b => some (.bl b)
  | .int i => some (.int i)
  | .str s => some (.str s)
  | _ => none
theorem scalV_ok {c : Ct} {w : Wd} {d : D} {v x : V} (e : scalV d = some x) (r : VR c w d v) : v = x := by
  cases d <;> simp only [scalV, Option.some.injEq, reduceCtorEq] at e <;> (subst e; simpa only [VR] using r)
def eqF (h : Hd) (d e : D) : Option Bool := match scalV d, scalV e with
  | some x, some y => if scal x y then some (decide (x = y)) else deepE
  | _, _ => deepE
where deepE : Option Bool := (pyO h d).bind fun a => (pyO h e).bind fun b => if a.canLay0 && b.canLay0 && decide (min a.depth b.depth ≤ 64) then some (PyData.eqv a b) else none
def rEqA (K : PySem.W.Frag) : R2 := fun x y H Q => rEq x y H Q ∨ rEqM K false x y H Q
def rNeA (K : PySem.W.Frag) : R2 := fun x y H Q => rNe x y H Q ∨ rEqM K true x y H Q
theorem op_eqA {X : Cx} (hu : X.A.units + 64 < cLine) : OpR X (compareOp .Eq) (rEqA X.K) := op_eq.or (op_eqM hu)
theorem op_neA {X : Cx} (hu : X.A.units + 64 < cLine) : OpR X (compareOp .NotEq) (rNeA X.K) := op_ne.or (op_neM hu)
theorem deepE_ok {c : Ct} {w : Wd} {h : Hd} {H : Hp} {x y : V} {dx dy : D} {b : Bool} (s : SR c w h H) (rx : VR c w dx x) (ry : VR c w dy y) (e : eqF.deepE h dx dy = some b) :
    ∃ d e, Dp c.K H x d ∧ Dp c.K H y e ∧ d.canLay0 = true ∧ e.canLay0 = true ∧ min d.depth e.depth ≤ 64 ∧ PyData.eqv d e = b := by
  unfold eqF.deepE at e
  rw [Option.bind_eq_some_iff] at e
  obtain ⟨a, ea, e⟩ := e
  rw [Option.bind_eq_some_iff] at e
  obtain ⟨b', eb, e⟩ := e
  split at e
  · rename_i hc
    simp only [Bool.and_eq_true, decide_eq_true_eq] at hc
    cases e
    exact ⟨a, b', pyO_ok s rx ea, pyO_ok s ry eb, hc.1.1, hc.1.2, hc.2, rfl⟩
  · cases e
theorem eqF_ok {c : Ct} {w : Wd} {h : Hd} {H : Hp} {x y : V} {dx dy : D} {b : Bool} (s : SR c w h H) (rx : VR c w dx x) (ry : VR c w dy y) (e : eqF h dx dy = some b) :
    (scal x y = true ∧ decide (x = y) = b) ∨ ∃ d e, Dp c.K H x d ∧ Dp c.K H y e ∧ d.canLay0 = true ∧ e.canLay0 = true ∧ min d.depth e.depth ≤ 64 ∧ PyData.eqv d e = b := by
  unfold eqF at e
  split at e
  · rename_i u v e1 e2
    split at e
    · rename_i hs
      cases e
      rw [scalV_ok e1 rx, scalV_ok e2 ry]
      exact .inl ⟨hs, rfl⟩
    · exact .inr (deepE_ok s rx ry e)
  · exact .inr (deepE_ok s rx ry e)
def cEq (d e : D) (h : Hd) : Res Bool := optR (eqF h d e) h
def cNe (d e : D) (h : Hd) : Res Bool := optR ((eqF h d e).map (!·)) h
theorem s_eq {c : Ct} : OpB c (rEqA c.K) cEq := fun {w W σ h H x y dx dy Q} s rx ry p => by
  obtain ⟨b, eb, p⟩ := optR_post p
  rcases eqF_ok s rx ry eb with ⟨hs, e⟩ | ⟨d, e, a1, a2, a3, a4, a5, a6⟩
  · exact .inl ⟨hs, b, by rw [e], p.ret rfl s⟩
  · exact .inr ⟨d, e, a1, a2, a3, a4, a5, b, by simp only [Bool.false_eq_true, if_false, a6], p.ret rfl s⟩
theorem s_ne {c : Ct} : OpB c (rNeA c.K) cNe := fun {w W σ h H x y dx dy Q} s rx ry p => by
  obtain ⟨b, eb, p⟩ := optR_post p
  rw [Option.map_eq_some_iff] at eb
  obtain ⟨b', eb, rfl⟩ := eb
  rcases eqF_ok s rx ry eb with ⟨hs, e⟩ | ⟨d, e, a1, a2, a3, a4, a5, a6⟩
  · exact .inl ⟨hs, _, by rw [e], p.ret rfl s⟩
  · exact .inr ⟨d, e, a1, a2, a3, a4, a5, _, by simp only [if_true, a6], p.ret rfl s⟩
def cLt (d e : D) (h : Hd) : Res Bool := match d, e with
  | .int i, .int j => .ok (decide (i < j)) h
  | .str a, .str b => .ok (decide (a.cps.toList < b.cps.toList)) h
  | _, _ => .bad
def cLe (d e : D) (h : Hd) : Res Bool := match d, e with
  | .int i, .int j => .ok (decide (i ≤ j)) h
  | _, _ => .bad
def cGt (d e : D) (h : Hd) : Res Bool := match d, e with
  | .int i, .int j => .ok (decide (j < i)) h
  | _, _ => .bad
def cGe (d e : D) (h : Hd) : Res Bool := match d, e with
  | .int i, .int j => .ok (decide (j ≤ i)) h
  | _, _ => .bad
def rLtA : R2 := fun x y H Q => rI0 (fun i j => .bl (decide (i < j))) x y H Q ∨ ∃ i j, x = .str i ∧ y = .str j ∧ Q (.bl (decide (i.cps.toList < j.cps.toList))) H
theorem op_ltA {X : Cx} : OpR X (compareOp .Lt) rLtA := op_lt.or op_lt_str
theorem s_lt {c : Ct} : OpB c rLtA cLt := fun {w W σ h H x y dx dy Q} s rx ry p => by
  cases dx with
  | int i =>
    cases dy with
    | int j => simp only [VR] at rx ry; exact .inl ⟨i, j, rx, ry, _, rfl, p.ret rfl s⟩
    | _ => exact p.elim
  | str i =>
    cases dy with
    | str j => simp only [VR] at rx ry; exact .inr ⟨i, j, rx, ry, _, rfl, p.ret rfl s⟩
    | _ => exact p.elim
  | _ => exact p.elim
theorem s_le {c : Ct} : OpB c (rI0 fun i j => .bl (decide (i ≤ j))) cLe := fun {w W σ h H x y dx dy Q} s rx ry p => by
  cases dx with
  | int i =>
    cases dy with
    | int j => simp only [VR] at rx ry; exact ⟨i, j, rx, ry, _, rfl, p.ret rfl s⟩
    | _ => exact p.elim
  | _ => exact p.elim
theorem s_gt {c : Ct} : OpB c (rI0 fun i j => .bl (decide (j < i))) cGt := fun {w W σ h H x y dx dy Q} s rx ry p => by
  cases dx with
  | int i =>
    cases dy with
    | int j => simp only [VR] at rx ry; exact ⟨i, j, rx, ry, _, rfl, p.ret rfl s⟩
    | _ => exact p.elim
  | _ => exact p.elim
theorem s_ge {c : Ct} : OpB c (rI0 fun i j => .bl (decide (j ≤ i))) cGe := fun {w W σ h H x y dx dy Q} s rx ry p => by
  cases dx with
  | int i =>
    cases dy with
    | int j => simp only [VR] at rx ry; exact ⟨i, j, rx, ry, _, rfl, p.ret rfl s⟩
    | _ => exact p.elim
  | _ => exact p.elim
def isNon : D → Bool
  | .non => true
  | _ => false
theorem isNon_ok {c : Ct} {w : Wd} {d : D} {v : V} (r : VR c w d v) : isNon d = decide (v = .non) := by
  cases d <;> simp only [VR] at r <;> first | (subst r; rfl) | (obtain ⟨_, _, rfl, _⟩ := r; rfl) | (obtain ⟨_, rfl, _⟩ := r; rfl) | (obtain ⟨_, _, _, rfl, _⟩ := r; rfl) | (obtain ⟨_, _, _, _, rfl, _⟩ := r; rfl)
def cIs (d e : D) (h : Hd) : Res Bool := match e with
  | .non => .ok (isNon d) h
  | _ => .bad
def cIsNot (d e : D) (h : Hd) : Res Bool := match e with
  | .non => .ok (!isNon d) h
  | _ => .bad
theorem s_is {c : Ct} : OpB c (fun x y H Q => y = .non ∧ Q (.bl (decide (x = .non))) H) cIs := fun {w W σ h H x y dx dy Q} s rx ry p => by
  cases dy with
  | non => simp only [VR] at ry; exact ⟨ry, _, by rw [← isNon_ok rx], p.ret rfl s⟩
  | _ => exact p.elim
theorem s_isnot {c : Ct} : OpB c (fun x y H Q => y = .non ∧ Q (.bl (!decide (x = .non))) H) cIsNot := fun {w W σ h H x y dx dy Q} s rx ry p => by
  cases dy with
  | non => simp only [VR] at ry; exact ⟨ry, _, by rw [← isNon_ok rx], p.ret rfl s⟩
  | _ => exact p.elim
def inT (a b : Str) : Bool := if h : a.cps.size = 1 then decide (a.cps[0] ∈ b.cps.toList) else !(Builtin.Str.occurrences b a 0 b.length 1).isEmpty
def eqvIn (p : PyData) (ds : List PyData) : Bool := ds.any fun z => PyData.eqv z p
def flatD : D → Bool
  | .non => true
  | .bl _ => true
  | .int _ => true
  | .str _ => true
  | _ => false
def eqFlat : D → D → Bool
  | .non, .non => true
  | .bl a, .bl b => a == b
  | .bl a, .int b => (if a then 1 else 0) == b
  | .int a, .bl b => a == (if b then 1 else 0)
  | .int a, .int b => a == b
  | .str a, .str b => a == b
  | _, _ => false
theorem flat_ok {c : Ct} {w : Wd} {d : D} {v : V} (r : VR c w d v) (f : flatD d = true) : flatV v = true ∧ scalV d = some v := by
  cases d <;> simp only [flatD, reduceCtorEq] at f <;> (simp only [VR] at r; subst r; exact ⟨rfl, rfl⟩)
theorem eqFlat_ok {c : Ct} {w : Wd} {d e : D} {v u : V} (r : VR c w d v) (q : VR c w e u) (f : flatD d = true) (g : flatD e = true) : eqFlat d e = eqV v u := by
  cases d <;> simp only [flatD, reduceCtorEq] at f <;> cases e <;> simp only [flatD, reduceCtorEq] at g <;> (simp only [VR] at r q; subst r; subst q; rfl)
theorem flats_ok {c : Ct} {w : Wd} : ∀ {ds : List D} {vs : List V}, VRs c w ds vs → ds.all flatD = true → vs.all flatV = true
  | [], vs, r, _ => by simp only [VRs] at r; subst r; rfl
  | d :: ds, vs, r, f => by
    simp only [VRs] at r
    obtain ⟨v, us, rfl, r1, r2⟩ := r
    simp only [List.all_cons, Bool.and_eq_true] at f ⊢
    exact ⟨(flat_ok r1 f.1).1, flats_ok r2 f.2⟩
def inFlat (x : D) (xs : List D) : Bool := xs.any fun y => eqFlat y x
theorem inFlat_ok {c : Ct} {w : Wd} {x : D} {v : V} (rx : VR c w x v) (fx : flatD x = true) : ∀ {ds : List D} {vs : List V}, VRs c w ds vs → ds.all flatD = true → inFlat x ds = inV v vs
  | [], vs, r, _ => by simp only [VRs] at r; subst r; rfl
  | d :: ds, vs, r, f => by
    simp only [VRs] at r
    obtain ⟨u, us, rfl, r1, r2⟩ := r
    simp only [List.all_cons, Bool.and_eq_true] at f
    have ih := inFlat_ok rx fx r2 f.2
    unfold inFlat inV at ih ⊢
    rw [List.any_cons, List.any_cons, ih, eqFlat_ok r1 rx f.1 fx]
def inDeep (h : Hd) (x y : D) : Option Bool := (lstOf h y).bind fun zs => if isPy x && isPys zs && (pyD x).canLay0 && PyData.canLayAll0 (pyDs zs) && decide ((pyD x).depth ≤ 64) && decide (PyData.depthAll (pyDs zs) < 64) then some (eqvIn (pyD x) (pyDs zs)) else none
def inSeq (h : Hd) (x y : D) : Option Bool := (seqOf h y).bind fun ys => if flatD x && ys.all flatD then some (inFlat x ys) else inDeep h x y
def inF (h : Hd) (x y : D) : Option Bool := match x, y with
  | .str a, .str b => some (inT a b)
  | x, y => inSeq h x y
def rInA (K : PySem.W.Frag) : R2 := fun x y H Q => (∃ (c : Nat) (z : Str), x = .str ⟨#[c]⟩ ∧ y = .str z ∧ Q (.bl (decide (c ∈ z.cps.toList))) H) ∨ (∃ i j, x = .str i ∧ y = .str j ∧ Q (.bl (!(Builtin.Str.occurrences j i 0 j.length 1).isEmpty)) H) ∨ rIn K false x y H Q ∨ rInD K x y H Q
def rNotInA (K : PySem.W.Frag) : R2 := fun x y H Q => (∃ (c : Nat) (z : Str), x = .str ⟨#[c]⟩ ∧ y = .str z ∧ Q (.bl (!decide (c ∈ z.cps.toList))) H) ∨ (∃ i j, x = .str i ∧ y = .str j ∧ Q (.bl (!(!(Builtin.Str.occurrences j i 0 j.length 1).isEmpty))) H) ∨ rIn K true x y H Q ∨ rNotInD K x y H Q
theorem op_inA {X : Cx} (hu : X.A.units + 65 < cLine) : OpR X (compareOp .In) (rInA X.K) := op_in_sign.or (op_in_str.or (op_in_seq.or (op_inD hu)))
theorem op_notInA {X : Cx} (hu : X.A.units + 65 < cLine) : OpR X (compareOp .NotIn) (rNotInA X.K) := op_notIn_sign.or (L2.op_notIn_str.or (op_notIn_seq.or (op_notInD hu)))
theorem one_sign {a : Str} (h : a.cps.size = 1) : a = ⟨#[a.cps[0]]⟩ := by
  obtain ⟨cps⟩ := a
  have : cps = #[cps[0]] := by
    apply Array.ext
    · simpa using h
    · intro i h1 h2
      have h1' : i < cps.size := h1
      have hs : cps.size = 1 := h
      have : i = 0 := by omega
      subst this; rfl
  exact congrArg Str.mk this
theorem inF_ok {c : Ct} {w : Wd} {h : Hd} {H : Hp} {x y : V} {dx dy : D} {b : Bool} (s : SR c w h H) (rx : VR c w dx x) (ry : VR c w dy y) (e : inF h dx dy = some b) :
    (∃ (c : Nat) (z : Str), x = .str ⟨#[c]⟩ ∧ y = .str z ∧ decide (c ∈ z.cps.toList) = b) ∨ (∃ i j, x = .str i ∧ y = .str j ∧ (!(Builtin.Str.occurrences j i 0 j.length 1).isEmpty) = b) ∨
      (∃ p xs, y = .ref p ∧ (SqL c.K H p xs ∨ SqT c.K H p xs) ∧ flatV x = true ∧ xs.all flatV = true ∧ inV x xs = b) ∨
      (∃ d ds, Dp c.K H x d ∧ Dp c.K H y (.list ds) ∧ SeqAt.shaped d = true ∧ SeqAt.shaped (.list ds) = true ∧ (ds.any fun z => PyData.eqv z d) = b) := by
  have gen : inSeq h dx dy = some b →
      (∃ p xs, y = .ref p ∧ (SqL c.K H p xs ∨ SqT c.K H p xs) ∧ flatV x = true ∧ xs.all flatV = true ∧ inV x xs = b) ∨
      (∃ d ds, Dp c.K H x d ∧ Dp c.K H y (.list ds) ∧ SeqAt.shaped d = true ∧ SeqAt.shaped (.list ds) = true ∧ (ds.any fun z => PyData.eqv z d) = b) := fun e => by
    unfold inSeq at e
    rw [Option.bind_eq_some_iff] at e
    obtain ⟨ys, ey, e⟩ := e
    obtain ⟨a, vs, rfl, hq, r⟩ := seqOf_ok s ry ey
    split at e
    · rename_i hf
      simp only [Bool.and_eq_true] at hf
      cases e
      exact .inl ⟨a, vs, rfl, hq, (flat_ok rx hf.1).1, flats_ok r hf.2, (inFlat_ok rx hf.1 r hf.2).symm⟩
    · unfold inDeep at e
      rw [Option.bind_eq_some_iff] at e
      obtain ⟨zs, el, e⟩ := e
      split at e
      · rename_i hc
        simp only [Bool.and_eq_true, decide_eq_true_eq] at hc
        cases e
        obtain ⟨a2, vs2, ea2, hq2, r2⟩ := lstOf_ok s ry el
        cases ea2
        refine .inr ⟨pyD dx, pyDs zs, dp_of s rx hc.1.1.1.1.1, .lst (SqL.of hq2) (dps_of s r2 hc.1.1.1.1.2), ?_, ?_, rfl⟩
        · unfold SeqAt.shaped; rw [hc.1.1.1.2, Bool.true_and]; exact decide_eq_true hc.1.2
        · unfold SeqAt.shaped
          have h1 : (PyData.list (pyDs zs)).canLay0 = true := by simp only [PyData.canLay0]; exact hc.1.1.2
          rw [h1, Bool.true_and]
          refine decide_eq_true ?_
          simp only [PyData.depth]
          omega
      · cases e
  cases dx with
  | str u =>
    cases dy with
    | str z =>
      simp only [VR] at rx ry; subst rx; subst ry
      simp only [inF, Option.some.injEq] at e; subst e
      unfold inT
      by_cases hz : u.cps.size = 1
      · rw [dif_pos hz]
        exact .inl ⟨u.cps[0], z, congrArg V.str (one_sign hz), rfl, rfl⟩
      · rw [dif_neg hz]
        exact .inr (.inl ⟨u, z, rfl, rfl, rfl⟩)
    | _ => exact .inr (.inr (gen e))
  | _ => exact .inr (.inr (gen e))
def cIn (d e : D) (h : Hd) : Res Bool := optR (inF h d e) h
def cNotIn (d e : D) (h : Hd) : Res Bool := optR ((inF h d e).map (!·)) h
theorem s_in {c : Ct} : OpB c (rInA c.K) cIn := fun {w W σ h H x y dx dy Q} s rx ry p => by
  obtain ⟨b, eb, p⟩ := optR_post p
  rcases inF_ok s rx ry eb with ⟨cc, z, a1, a2, a3⟩ | ⟨i, j, a1, a2, a3⟩ | ⟨q, xs, a1, a2, a3, a4, a5⟩ | ⟨d, ds, a1, a2, a3, a4, a5⟩
  · exact .inl ⟨cc, z, a1, a2, b, by rw [a3], p.ret rfl s⟩
  · exact .inr (.inl ⟨i, j, a1, a2, b, by rw [a3], p.ret rfl s⟩)
  · exact .inr (.inr (.inl ⟨q, xs, a1, a2, a3, a4, b, by simp only [Bool.false_eq_true, if_false, a5], p.ret rfl s⟩))
  · exact .inr (.inr (.inr ⟨d, ds, a1, a2, a3, a4, b, by rw [a5], p.ret rfl s⟩))
theorem s_notin {c : Ct} : OpB c (rNotInA c.K) cNotIn := fun {w W σ h H x y dx dy Q} s rx ry p => by
  obtain ⟨b, eb, p⟩ := optR_post p
  rw [Option.map_eq_some_iff] at eb
  obtain ⟨b', eb, rfl⟩ := eb
  rcases inF_ok s rx ry eb with ⟨cc, z, a1, a2, a3⟩ | ⟨i, j, a1, a2, a3⟩ | ⟨q, xs, a1, a2, a3, a4, a5⟩ | ⟨d, ds, a1, a2, a3, a4, a5⟩
  · exact .inl ⟨cc, z, a1, a2, _, by rw [a3], p.ret rfl s⟩
  · exact .inr (.inl ⟨i, j, a1, a2, _, by rw [a3], p.ret rfl s⟩)
  · exact .inr (.inr (.inl ⟨q, xs, a1, a2, a3, a4, _, by simp only [if_true, a5], p.ret rfl s⟩))
  · exact .inr (.inr (.inr ⟨d, ds, a1, a2, a3, a4, _, by rw [a5], p.ret rfl s⟩))
end DD
namespace DD
open PySem PySem.Spec PyProof.Rows L2
def kM : Value → Key
  | .int i _ => .inl i
  | .str x _ => .inr x
  | _ => .inl 0
abbrev kE (e : Int × Value) : Key := kM e.2
def GoodM (w : World) (e : Int × Value) : Prop := keyIs (kE e) e.2 = true ∧ e.1 = keyH w (kE e)
def kIn (l : List Key) (j : Key) : Bool := l.any fun k => decide (k = j)
def SetM (w : World) (h : Heap) (a : Addr) (S : Key → Bool) (n : Nat) : Prop :=
  ∃ o es ep t, (h.get? a = some o ∧ o.ExactSet ∧ o.data = .set es ep t) ∧ ((∀ e ∈ es.toList, GoodM w e) ∧ (es.toList.map kE).Nodup ∧ ∀ k, S k = true ↔ k ∈ es.toList.map kE) ∧
    (es.size < scanBound ∧ t.fits es.size = true ∧ es.size = n) ∧ Ris t.place.toList ∧ (w.params.followText "set-order" = true ∨ t.led = true)
section
variable {P : Program} {w : World} {h h' : Heap} {a : Addr} {S : Key → Bool} {n : Nat}
theorem SetM.at (R : SetM w h a S n) (k : ∀ o, h.get? a = some o → h'.get? a = some o) : SetM w h' a S n := by
  obtain ⟨o, es, ep, t, ⟨q1, q2, q3⟩, r⟩ := R
  exact ⟨o, es, ep, t, ⟨k o q1, q2, q3⟩, r⟩
theorem SetM.new {ns : List Key} (ho : h.get? a = some { cls := .type "set", dict := none, data := .set #[] 0 (.fresh 0 0 (!w.params.followText "set-order")) }) : SetM w h a (kIn (ns.take 0)) 0 := by
  refine ⟨_, #[], 0, _, ⟨ho, ⟨rfl, rfl, rfl⟩, rfl⟩, ⟨fun e he => by simp at he, by simp, fun k => by simp [kIn]⟩, ⟨by decide, rfl, rfl⟩, List.Pairwise.nil, ?_⟩
  show _ ∨ (!w.params.followText "set-order") = true
  cases w.params.followText "set-order" <;> simp
end
end DD
namespace DD
open PySem PySem.Spec L2
def valR (o : Option D) (h : Hd) : Res O := optR (o.map .val) h
def newL (h : Hd) (xs : List D) : Res O := if xs.length ≤ sizeLine then .ok (.new (.lst xs)) h else .bad
def addF (x y : D) (h : Hd) : Res O := match x, y with
  | .int i, .int j => .ok (.val (.int (i + j))) h
  | .str a, .str b => if a.length + b.length ≤ sizeLine then .ok (.val (.str (a ++ b))) h else .bad
  | .tup a, .tup b => if a.length + b.length ≤ sizeLine then .ok (.val (.tup (a ++ b))) h else .bad
  | x, y => match lstOf h x, lstOf h y with
    | some a, some b => newL h (a ++ b)
    | _, _ => .bad
def subF (x y : D) (h : Hd) : Res O := match x, y with
  | .int i, .int j => .ok (.val (.int (i - j))) h
  | _, _ => .bad
def mulF (x y : D) (h : Hd) : Res O := match x, y with
  | .int i, .int j => if (-(2 ^ 64) < i ∧ i < 2 ^ 64) ∨ (-(2 ^ 64) < j ∧ j < 2 ^ 64) then .ok (.val (.int (i * j))) h else .bad
  | x, .int k => match lstOf h x with
    | some xs => if -(2 ^ 63) ≤ k ∧ k < 2 ^ 63 ∧ xs.length * k.toNat ≤ sizeLine then .ok (.new (.lst (List.replicate k.toNat xs).flatten)) h else .bad
    | _ => .bad
  | _, _ => .bad
def fdivF (x y : D) (h : Hd) : Res O := match x, y with
  | .int i, .int j => if 0 < j ∧ j < 1000000000000000000000000000000 then .ok (.val (.int (i / j))) h else .bad
  | _, _ => .bad
def modF (x y : D) (h : Hd) : Res O := match x, y with
  | .int i, .int j => if 0 < j then .ok (.val (.int (i % j))) h else .bad
  | _, _ => .bad
def powF (x y : D) (h : Hd) : Res O := match x, y with
  | .int i, .int j => if 0 ≤ j ∧ j ≤ 1000000 ∧ i.natAbs < 2 ^ 64 then .ok (.val (.int (i ^ j.toNat))) h else .bad
  | _, _ => .bad
def rAddA (K : PySem.W.Frag) : R2 := fun x y H Q => rI0 (fun i j => .int (i + j)) x y H Q ∨ (∃ i j, x = .str i ∧ y = .str j ∧ i.length + j.length ≤ sizeLine ∧ Q (.str (i ++ j)) H) ∨ rCatA K x y H Q ∨ rCat x y H Q
theorem op_addA {X : Cx} : OpR X (binaryOp .Add) (rAddA X.K) := op_add.or (op_add_str.or (op_catA.or op_cat))
theorem VRs.nil_iff {c : Ct} {w : Wd} {xs : List D} {vs : List V} (r : VRs c w xs vs) : xs = [] ↔ vs = [] := by
  have := r.len
  cases xs <;> cases vs <;> simp_all
theorem s_add {c : Ct} : OpS c (rAddA c.K) addF := fun {w W σ h H x y dx dy Q} s rx ry p => by
  have lists : (match lstOf h dx, lstOf h dy with | some a, some b => newL h (a ++ b) | _, _ => Res.bad) = addF dx dy h → rAddA c.K x y H Q := fun e => by
    rw [← e] at p
    split at p
    · rename_i a b ea eb
      obtain ⟨l, vs, rfl, h1, r1⟩ := lstOf_ok s rx ea
      obtain ⟨l2, us, rfl, h2, r2⟩ := lstOf_ok s ry eb
      unfold newL at p
      split at p
      · rename_i hz
        refine .inr (.inr (.inr ⟨l, l2, vs, us, rfl, rfl, h1, h2, by rw [List.length_append, r1.len, r2.len] at hz; exact hz, fun q hq => ?_⟩))
        obtain ⟨s2, r3⟩ := new_obj (z := .lst (a ++ b)) s hq (by intro z; cases z) ⟨_, upd_same, r1.append r2⟩
        exact p _ w _ (.refl _) r3 s2
      · exact p.elim
    · exact p.elim
  cases dx with
  | int i =>
    cases dy with
    | int j => simp only [VR] at rx ry; exact .inl ⟨i, j, rx, ry, p.ret (by simp only [RO, VR]) s⟩
    | _ => exact lists rfl
  | str a =>
    cases dy with
    | str b =>
      simp only [VR] at rx ry
      simp only [addF] at p
      split at p
      · rename_i hz; exact .inr (.inl ⟨a, b, rx, ry, hz, p.ret (by simp only [RO, VR]) s⟩)
      · exact p.elim
    | _ => exact lists rfl
  | tup a =>
    cases dy with
    | tup b =>
      simp only [addF] at p
      split at p
      · rename_i hz
        have rx' := rx; have ry' := ry
        simp only [VR] at rx ry
        obtain ⟨l, vs, rfl, h1, r1⟩ := rx
        obtain ⟨l2, us, rfl, h2, r2⟩ := ry
        refine .inr (.inr (.inl ⟨l, l2, vs, us, rfl, rfl, SqT_le s.F h1, SqT_le s.F h2, by rw [← r1.len, ← r2.len]; exact hz, fun q => ?_, fun q q2 => ?_, fun q q2 n hn => ?_⟩))
        · have := r1.nil_iff.2 q
          subst this
          exact p.ret (by simpa only [RO, List.nil_append] using ry') s
        · have := r2.nil_iff.2 q2
          subst this
          exact p.ret (by simpa only [RO, List.append_nil] using rx') s
        · obtain ⟨w2, l2, s2, r3⟩ := new_tup s (r1.append r2) hn
          exact p _ w2 _ l2 r3 s2
      · exact p.elim
    | _ => exact lists rfl
  | _ => exact lists (by cases dy <;> rfl)
theorem s_sub {c : Ct} : OpS c (rI0 fun i j => .int (i - j)) subF := fun {w W σ h H x y dx dy Q} s rx ry p => by
  cases dx with
  | int i =>
    cases dy with
    | int j => simp only [VR] at rx ry; exact ⟨i, j, rx, ry, p.ret (by simp only [RO, VR]) s⟩
    | _ => exact p.elim
  | _ => exact p.elim
theorem s_fdiv {c : Ct} : OpS c (rI CDivW fun i j => .int (i / j)) fdivF := fun {w W σ h H x y dx dy Q} s rx ry p => by
  cases dx with
  | int i =>
    cases dy with
    | int j =>
      simp only [fdivF] at p
      split at p
      · rename_i hz; simp only [VR] at rx ry; exact ⟨i, j, rx, ry, wide_div (b := 100) hz.1 (by omega) (by decide) (by decide), p.ret (by simp only [RO, VR]) s⟩
      · exact p.elim
    | _ => exact p.elim
  | _ => exact p.elim
theorem s_mod {c : Ct} : OpS c (rI (fun _ j => 0 < j) fun i j => .int (i % j)) modF := fun {w W σ h H x y dx dy Q} s rx ry p => by
  cases dx with
  | int i =>
    cases dy with
    | int j =>
      simp only [modF] at p
      split at p
      · rename_i hz; simp only [VR] at rx ry; exact ⟨i, j, rx, ry, hz, p.ret (by simp only [RO, VR]) s⟩
      · exact p.elim
    | _ => exact p.elim
  | _ => exact p.elim
theorem s_pow {c : Ct} : OpS c (rI CPow fun i j => .int (i ^ j.toNat)) powF := fun {w W σ h H x y dx dy Q} s rx ry p => by
  cases dx with
  | int i =>
    cases dy with
    | int j =>
      simp only [powF] at p
      split at p
      · rename_i hz; simp only [VR] at rx ry; exact ⟨i, j, rx, ry, hz, p.ret (by simp only [RO, VR]) s⟩
      · exact p.elim
    | _ => exact p.elim
  | _ => exact p.elim
def rMulA : R2 := fun x y H Q => rI CMul (fun i j => .int (i * j)) x y H Q ∨ rRep x y H Q
theorem op_mulA {X : Cx} : OpR X (binaryOp .Mult) rMulA := op_mul.or op_rep
theorem VRs.rep {c : Ct} {w : Wd} {xs : List D} {vs : List V} (r : VRs c w xs vs) : ∀ k : Nat, VRs c w (List.replicate k xs).flatten (List.replicate k vs).flatten
  | 0 => .nil
  | k + 1 => by
    rw [List.replicate_succ, List.replicate_succ, List.flatten_cons, List.flatten_cons]
    exact r.append (VRs.rep r k)
theorem s_mul {c : Ct} : OpS c rMulA mulF := fun {w W σ h H x y dx dy Q} s rx ry p => by
  cases dy with
  | int j =>
    have lists : (match lstOf h dx with | some xs => if -(2 ^ 63) ≤ j ∧ j < 2 ^ 63 ∧ xs.length * j.toNat ≤ sizeLine then Res.ok (O.new (.lst (List.replicate j.toNat xs).flatten)) h else .bad | _ => .bad) = mulF dx (.int j) h → rMulA x y H Q := fun e => by
      rw [← e] at p
      split at p
      · rename_i xs ea
        split at p
        · rename_i hz
          obtain ⟨l, vs, rfl, h1, r1⟩ := lstOf_ok s rx ea
          simp only [VR] at ry
          refine .inr ⟨l, j, vs, rfl, ry, h1, hz.1, hz.2.1, by rw [← r1.len]; exact hz.2.2, fun q hq => ?_⟩
          obtain ⟨s2, r3⟩ := new_obj (z := .lst (List.replicate j.toNat xs).flatten) s hq (by intro z; cases z) ⟨_, upd_same, r1.rep _⟩
          exact p _ w _ (.refl _) r3 s2
        · exact p.elim
      · exact p.elim
    cases dx with
    | int i =>
      simp only [mulF] at p
      split at p
      · rename_i hz; simp only [VR] at rx ry; exact .inl ⟨i, j, rx, ry, hz, p.ret (by simp only [RO, VR]) s⟩
      · exact p.elim
    | _ => exact lists rfl
  | _ => cases dx <;> exact p.elim
def CallS (c : Ct) (r : List V → Hp → VK → Prop) (f : List D → Hd → Res O) : Prop := ∀ {w : Wd} {W : WX} {σ : L2.St} {h : Hd} {H : Hp} {vs : List V} {ds : List D} {Q : VK}, SR c w h H → VRs c w ds vs → Post (RO c) c w W σ (f ds h) Q → r vs H Q
def mBi (f : List D → Hd → Res O) (m : MA) : Env → Hd → Res O := fun ρ h => (m ρ h).bind f
theorem VRs.one_inv {c : Ct} {w : Wd} {d : D} {vs : List V} (r : VRs c w [d] vs) : ∃ v, vs = [v] ∧ VR c w d v := by
  simp only [VRs] at r
  obtain ⟨v, _, rfl, r, rfl⟩ := r
  exact ⟨v, rfl, r⟩
theorem VRs.two_inv {c : Ct} {w : Wd} {d e : D} {vs : List V} (r : VRs c w [d, e] vs) : ∃ v u, vs = [v, u] ∧ VR c w d v ∧ VR c w e u := by
  simp only [VRs] at r
  obtain ⟨v, _, rfl, r, u, _, rfl, q, rfl⟩ := r
  exact ⟨v, u, rfl, r, q⟩
def lenF : List D → Hd → Res O
  | [.str s], h => if s.length ≤ sizeLine then .ok (.val (.int s.length)) h else .bad
  | [d], h => valR ((seqOf h d).map fun xs => .int xs.length) h
  | _, _ => .bad
theorem s_len {c : Ct} : CallS c (fun xs H Q => ∃ x n, xs = [x] ∧ LenV c.K x H n ∧ Q (.int n) H) lenF := fun {w W σ h H vs ds Q} s r p => by
  cases ds with
  | nil => exact p.elim
  | cons d ds =>
    cases ds with
    | cons _ _ => cases d <;> exact p.elim
    | nil =>
      obtain ⟨v, rfl, r'⟩ := r.one_inv
      replace r := r'
      have gen : Post (RO c) c w W σ (valR ((seqOf h d).map fun xs => .int xs.length) h) Q → ∃ x n, [v] = [x] ∧ LenV c.K x H n ∧ Q (.int n) H := fun p => by
        obtain ⟨o, eo, p⟩ := optR_post p
        rw [Option.map_map, Option.map_eq_some_iff] at eo
        obtain ⟨xs, ex, rfl⟩ := eo
        obtain ⟨a, vs, rfl, hq, z⟩ := seqOf_ok s r ex
        refine ⟨_, vs.length, rfl, hq.imp (fun q => ⟨vs, q, rfl⟩) (fun q => ⟨vs, q, rfl⟩), ?_⟩
        rw [← z.len]
        exact p.ret (by simp only [RO, Function.comp, VR]) s
      cases d with
      | str z =>
        simp only [VR] at r; subst r
        simp only [lenF] at p
        split at p
        · rename_i hz; exact ⟨_, _, rfl, ⟨hz, rfl⟩, p.ret (by simp only [RO, VR]) s⟩
        · exact p.elim
      | _ => exact gen p
/-- list(x), tuple(x) of a list, a tuple, list of a text -/
def listF : List D → Hd → Res O
  | [.str s], h => if s.length ≤ sizeLine then .ok (.new (.lst (signs s))) h else .bad
  | [d], h => optR ((seqOf h d).map fun xs => .new (.lst xs)) h
  | _, _ => .bad
theorem call_listS {X : Cx} (hc : X.calm = true) : CallR X (.type "list") (fun xs H Q => ∃ z : Str, xs = [.str z] ∧ z.length ≤ sizeLine ∧ ∀ p, H p = none → Q (.ref p) (upd H p (.lst (z.cps.toList.map fun c => V.str ⟨#[c]⟩)))) := by
  intro pins s σ H xs us Q I r q
  obtain ⟨z, rfl, hz, q⟩ := q
  obtain ⟨u, rfl, rx⟩ := vals1 r
  obtain ⟨t, rfl⟩ := rx
  refine call_list_str (I.ok.hd hc) z t (hn := hz) fun h' tk acc c' hk hS hacc => ?_
  have hl : acc.toList.length = z.cps.toList.length := by rw [Array.length_toList]; exact hacc.1
  have hv : Vals (z.cps.toList.map fun c => V.str ⟨#[c]⟩) acc.toList := by
    refine Vals_of_get (by rw [List.length_map, hl]) fun i v u e1 e2 => ?_
    obtain ⟨c, u', hc', rfl⟩ := hacc.2 i u (by rw [← Array.getElem?_toList]; exact e2)
    rw [List.getElem?_map, Array.getElem?_toList, hc'] at e1
    cases e1
    exact ⟨u', rfl⟩
  exact ⟨.ref s.heap.objs.size, _, I.laid (t' := tk) hk (Nat.le_refl _) (show ObjOk X.prog X.w _ _ _ (.lst _) from ⟨by rw [List.length_map]; exact hz, acc.toList, c', hv, by rw [Array.toArray_toList]; exact hS⟩), rfl, q _ (I.hok.fresh (Nat.le_refl _))⟩
where
  Vals_of_get : ∀ {vs : List V} {us : List Value}, vs.length = us.length → (∀ (i : Nat) v u, vs[i]? = some v → us[i]? = some u → RelV v u) → Vals vs us
    | [], [], _, _ => .nil
    | [], _ :: _, h, _ => by simp at h
    | _ :: _, [], h, _ => by simp at h
    | v :: vs, u :: us, h, g => .cons (g 0 v u rfl rfl) (Vals_of_get (by simpa using h) fun i x y e1 e2 => g (i + 1) x y (by simpa using e1) (by simpa using e2))
def rListA (K : PySem.W.Frag) : List V → Hp → VK → Prop := fun xs H Q => (∃ p ys, xs = [.ref p] ∧ (SqL K H p ys ∨ SqT K H p ys) ∧ ∀ l, H l = none → Q (.ref l) (upd H l (.lst ys))) ∨
  (∃ z : Str, xs = [.str z] ∧ z.length ≤ sizeLine ∧ ∀ p, H p = none → Q (.ref p) (upd H p (.lst (z.cps.toList.map fun c => V.str ⟨#[c]⟩))))
theorem call_listA {X : Cx} (hc : X.calm = true) : CallR X (.type "list") (rListA X.K) := call_list_of.or (call_listS hc)
theorem VRs_signs {c : Ct} {w : Wd} : ∀ l : List Nat, VRs c w (l.map fun z => D.str ⟨#[z]⟩) (l.map fun z => V.str ⟨#[z]⟩)
  | [] => .nil
  | z :: l => .cons (by simp only [VR]) (VRs_signs l)
theorem s_list {c : Ct} : CallS c (rListA c.K) listF := fun {w W σ h H vs ds Q} s r p => by
  cases ds with
  | nil => exact p.elim
  | cons d ds =>
    cases ds with
    | cons _ _ => cases d <;> exact p.elim
    | nil =>
      obtain ⟨v, rfl, r'⟩ := r.one_inv
      replace r := r'
      have gen : Post (RO c) c w W σ (optR ((seqOf h d).map fun xs => .new (.lst xs)) h) Q → rListA c.K [v] H Q := fun p => by
        obtain ⟨o, eo, p⟩ := optR_post p
        rw [Option.map_eq_some_iff] at eo
        obtain ⟨xs, ex, rfl⟩ := eo
        obtain ⟨a, vs, rfl, hq, z⟩ := seqOf_ok s r ex
        refine .inl ⟨a, vs, rfl, hq, fun q hn => ?_⟩
        obtain ⟨s2, r3⟩ := new_obj (z := .lst xs) s hn (by intro z; cases z) ⟨_, upd_same, z⟩
        exact p _ w _ (.refl _) r3 s2
      cases d with
      | str z =>
        simp only [VR] at r; subst r
        simp only [listF] at p
        split at p
        · rename_i hz
          refine .inr ⟨z, rfl, hz, fun q hn => ?_⟩
          obtain ⟨s2, r3⟩ := new_obj (z := .lst (signs z)) s hn (by intro z; cases z) ⟨_, upd_same, VRs_signs _⟩
          exact p _ w _ (.refl _) r3 s2
        · exact p.elim
      | _ => exact gen p
def tupleF : List D → Hd → Res O
  | [.tup xs], h => .ok (.val (.tup xs)) h
  | [.ktp _], _ => .bad
  | [d], h => valR ((seqOf h d).map .tup) h
  | _, _ => .bad
def rTupA (K : PySem.W.Frag) : List V → Hp → VK → Prop := fun xs H Q => ∃ p ys, xs = [.ref p] ∧ ((SqL K H p ys ∧ ∀ l, H l = none → Q (.ref l) (upd H l (.tup ys))) ∨ (SqT K H p ys ∧ Q (.ref p) H))
theorem s_tuple {c : Ct} : CallS c (rTupA c.K) tupleF := fun {w W σ h H vs ds Q} s r p => by
  cases ds with
  | nil => exact p.elim
  | cons d ds =>
    cases ds with
    | cons _ _ => cases d <;> exact p.elim
    | nil =>
      obtain ⟨v, rfl, r'⟩ := r.one_inv
      replace r := r'
      have gen : (∀ xs, d ≠ .tup xs) → (∀ xs, d ≠ .ktp xs) → Post (RO c) c w W σ (valR ((seqOf h d).map .tup) h) Q → rTupA c.K [v] H Q := fun nt nk p => by
        obtain ⟨o, eo, p⟩ := optR_post p
        rw [Option.map_map, Option.map_eq_some_iff] at eo
        obtain ⟨xs, ex, rfl⟩ := eo
        have lst : ∃ a vs, v = .ref a ∧ SqL c.K H a vs ∧ VRs c w xs vs := by
          cases d with
          | tup ys => exact absurd rfl (nt _)
          | ktp ys => exact absurd rfl (nk _)
          | rol ys =>
            simp only [seqOf, Option.some.injEq] at ex; subst ex
            simp only [VR] at r
            obtain ⟨a, vs, e1, q, z⟩ := r
            exact ⟨a, vs, e1, SqL_le s.F q, z⟩
          | lst ys =>
            obtain ⟨a, vs, e1, q, z⟩ := lstOf_ok s r (show lstOf h (.lst ys) = some xs from ex)
            exact ⟨a, vs, e1, SqL.of q, z⟩
          | ref ys =>
            obtain ⟨a, vs, e1, q, z⟩ := lstOf_ok s r (show lstOf h (.ref ys) = some xs from ex)
            exact ⟨a, vs, e1, SqL.of q, z⟩
          | _ => simp [seqOf, lstOf] at ex
        obtain ⟨a, vs, rfl, hq, z⟩ := lst
        refine ⟨a, vs, rfl, .inl ⟨hq, fun q hn => ?_⟩⟩
        obtain ⟨w2, l2, s2, r3⟩ := new_tup s z hn
        exact p _ w2 _ l2 r3 s2
      cases d with
      | tup xs =>
        have r' := r
        simp only [VR] at r
        obtain ⟨a, vs, rfl, q, z⟩ := r
        exact ⟨a, vs, rfl, .inr ⟨SqT_le s.F q, p.ret r' s⟩⟩
      | ktp xs => exact p.elim
      | _ => exact gen (by intro _ q; cases q) (by intro _ q; cases q) p
/-- all, any of a list of truths -/
def toBs : List D → Option (List Bool)
  | [] => some []
  | .bl b :: r => (toBs r).map (b :: ·)
  | _ => none
theorem toBs_ok {c : Ct} {w : Wd} : ∀ {ds : List D} {vs : List V} {bs : List Bool}, VRs c w ds vs → toBs ds = some bs → vs = bs.map V.bl
  | [], vs, bs, r, e => by simp only [VRs] at r; simp only [toBs, Option.some.injEq] at e; subst e; exact r
  | d :: ds, vs, bs, r, e => by
    cases d with
    | bl b =>
      simp only [toBs, Option.map_eq_some_iff] at e
      obtain ⟨bs', e', rfl⟩ := e
      simp only [VRs] at r
      obtain ⟨v, us, rfl, r1, r2⟩ := r
      simp only [VR] at r1
      rw [r1, toBs_ok r2 e']; rfl
    | _ => simp [toBs] at e
def allF : List D → Hd → Res O
  | [d], h => valR ((lstOf h d).bind fun xs => (toBs xs).map fun bs => .bl (bs.all id)) h
  | _, _ => .bad
theorem bools_ok {c : Ct} {w : Wd} {h : Hd} {H : Hp} {d : D} {v : V} {f : List Bool → D} {o : O} (s : SR c w h H) (r : VR c w d v) (e : ((lstOf h d).bind fun xs => (toBs xs).map f).map O.val = some o) : ∃ (a : Addr) (bs : List Bool), v = .ref a ∧ SqL c.K H a (bs.map V.bl) ∧ o = .val (f bs) := by
  rw [Option.map_eq_some_iff] at e
  obtain ⟨x, e, rfl⟩ := e
  rw [Option.bind_eq_some_iff] at e
  obtain ⟨xs, e1, e2⟩ := e
  rw [Option.map_eq_some_iff] at e2
  obtain ⟨bs, e2, rfl⟩ := e2
  obtain ⟨a, vs, rfl, hq, z⟩ := lstOf_ok s r e1
  exact ⟨a, bs, rfl, SqL.of (by rw [hq, toBs_ok z e2]), rfl⟩
theorem s_all {c : Ct} : CallS c (rAll c.K) allF := fun {w W σ h H vs ds Q} s r p => by
  cases ds with
  | nil => exact p.elim
  | cons d ds =>
    cases ds with
    | cons _ _ => exact p.elim
    | nil =>
      obtain ⟨v, rfl, r'⟩ := r.one_inv
      replace r := r'
      obtain ⟨o, eo, p⟩ := optR_post p
      obtain ⟨a, bs, rfl, hq, rfl⟩ := bools_ok s r eo
      exact ⟨a, bs, rfl, hq, p.ret (by simp only [RO, VR]) s⟩
section
variable {X : Cx} {W : WX} {e a : Expr} {es : List Expr} {mas : MA} {ma : ME} {x : Str} {p pos : Pos} {id T : String} {r : List V → Hp → VK → Prop} {f : List D → Hd → Res O}
theorem e_bi (hc : CallR X (.builtin id) r) (hs : CallS (Cx.ct X) r f) (hm : X.mg x = none) (hv : bootBuiltins x = some (.builtin id)) (ha : SA X W (e :: es) mas) (hg : Gl X x := by rfl) (hn : x ≠ "__name__" := by decide) (hdb : (x == ("__debug__" : Str)) = false := by decide)
    (he : starEach (e :: es) X.env = (false, eval e X.env) :: starEach es X.env := by rfl) (hpl : (backTo pos (starEach es X.env)).any (·.1) = false := by rfl) : SO X W (.Call (.Name x p) (e :: es) [] pos) (mBi f mas) :=
  PE.imp (pe_callB hc hg hm hv ha hn hdb he hpl) fun σ H Q q => (tP.bind q).mono fun vs H1 ⟨w1, ρ, h1, d, e1, s1, r1, p1⟩ => hs s1 r1 p1
theorem e_bt (hc : CallR X (.type T) r) (hs : CallS (Cx.ct X) r f) (hm : X.mg x = none) (hv : bootBuiltins x = some (.type T)) (ha : SA X W (e :: es) mas) (hg : Gl X x := by rfl) (hn : x ≠ "__name__" := by decide) (hdb : (x == ("__debug__" : Str)) = false := by decide)
    (he : starEach (e :: es) X.env = (false, eval e X.env) :: starEach es X.env := by rfl) (hpl : (backTo pos (starEach es X.env)).any (·.1) = false := by rfl) : SO X W (.Call (.Name x p) (e :: es) [] pos) (mBi f mas) :=
  PE.imp (pe_callTy hc hg hm hv ha hn hdb he hpl) fun σ H Q q => (tP.bind q).mono fun vs H1 ⟨w1, ρ, h1, d, e1, s1, r1, p1⟩ => hs s1 r1 p1
/-- a built-in class as a value -/
theorem e_ty {T : String} (hm : X.mg x = none) (hv : bootBuiltins x = some (.type T)) (hg : Gl X x := by rfl) (hn : x ≠ "__name__" := by decide) (hdb : (x == ("__debug__" : Str)) = false := by decide) : SE X W (.Name x p) (mC (.ty T)) :=
  e_C (pe_bltn (v := .ty T) hg hm hv rfl hn hdb) fun w => by simp only [VR]
end
def tyName (h : Hd) : D → Option String
  | .non => some "NoneType"
  | .bl _ => some "bool"
  | .int _ => some "int"
  | .str _ => some "str"
  | .tup _ => some "tuple"
  | .lst _ => some "list"
  | .rol _ => some "list"
  | .dct _ _ => some "dict"
  | .ktp _ => some "tuple"
  | .ref r => match h[r]? with
    | some (.lst _) => some "list"
    | some (.dct _ _) => some "dict"
    | some (.dtt _ _) => some "dict"
    | _ => none
  | _ => none
/-- by the table of the built-in classes that stand here -/
def isT (a b : String) : Bool := a == b || (a == "bool" && b == "int")
def tyKnown : List String := ["bool", "int", "str", "tuple", "list", "dict"]
theorem isT_ok {a b : String} (ha : a ∈ "NoneType" :: tyKnown) (hb : b ∈ tyKnown) : kitB a b = some (isT a b) := by
  have k : ∀ a ∈ "NoneType" :: tyKnown, ∀ b ∈ tyKnown, kitB a b = some (isT a b) := by decide +kernel
  exact k a ha b hb
theorem tyName_ok {c : Ct} {w : Wd} {h : Hd} {H : Hp} {d : D} {v : V} {t : String} (s : SR c w h H) (r : VR c w d v) (e : tyName h d = some t) : t ∈ "NoneType" :: tyKnown ∧ TyX c.K H v (.type t) := by
  have m : ∀ u, u ∈ "NoneType" :: tyKnown → tyName h d = some u → u = t := fun u _ q => Option.some.inj (q.symm.trans e)
  have lst : ∀ xs, lstOf h d = some xs → TyX c.K H v (.type "list") := fun xs q => by
    obtain ⟨a, vs, rfl, hq, _⟩ := lstOf_ok s r q
    exact .base (.lst hq)
  cases d with
  | non => simp only [tyName, Option.some.injEq] at e; simp only [VR] at r; subst e; subst r; exact ⟨by decide, .base .non⟩
  | bl b => simp only [tyName, Option.some.injEq] at e; simp only [VR] at r; subst e; subst r; exact ⟨by decide, .base (.bl b)⟩
  | int b => simp only [tyName, Option.some.injEq] at e; simp only [VR] at r; subst e; subst r; exact ⟨by decide, .base (.int b)⟩
  | str b => simp only [tyName, Option.some.injEq] at e; simp only [VR] at r; subst e; subst r; exact ⟨by decide, .base (.str b)⟩
  | tup xs =>
    simp only [tyName, Option.some.injEq] at e
    subst e
    simp only [VR] at r
    obtain ⟨a, vs, rfl, q, z⟩ := r
    refine ⟨by decide, ?_⟩
    exact .base (.tup (s.F _ _ q))
  | ktp xs =>
    simp only [tyName, Option.some.injEq] at e
    subst e
    simp only [VR] at r
    obtain ⟨a, vs, rfl, ⟨o, its, n, q1, q2, _⟩, z⟩ := r
    exact ⟨by decide, .kTuple q1 q2⟩
  | lst xs => simp only [tyName, Option.some.injEq] at e; subst e; exact ⟨by decide, lst xs rfl⟩
  | rol xs =>
    simp only [tyName, Option.some.injEq] at e
    subst e
    simp only [VR] at r
    obtain ⟨a, vs, rfl, q, z⟩ := r
    refine ⟨by decide, ?_⟩
    rcases SqL_le s.F q with (q | ⟨o, q⟩) | ⟨o, its, n, q1, q2, _⟩
    · exact .base (.lst q)
    · exact .base (.frz q)
    · exact .kList q1 q2
  | dct ks us =>
    simp only [tyName, Option.some.injEq] at e
    subst e
    simp only [VR] at r
    obtain ⟨a, od, kvs, rfl, q, _⟩ := r
    exact ⟨by decide, .fDict (s.F _ _ q)⟩
  | ref k =>
    simp only [tyName] at e
    split at e
    · rename_i xs ex
      cases e
      exact ⟨by decide, lst xs (by simp only [lstOf, ex])⟩
    · rename_i ks us ex
      cases e
      simp only [VR] at r
      obtain ⟨a, rfl, f⟩ := r
      obtain ⟨b, q1, _, _, q4⟩ := s.cell k _ ex (by intro z; cases z)
      rw [f] at q1; cases q1
      obtain ⟨kvs, q, _⟩ := q4
      exact ⟨by decide, .base (.dK q)⟩
    · rename_i ks us ex
      cases e
      simp only [VR] at r
      obtain ⟨a, rfl, f⟩ := r
      obtain ⟨b, q1, _, _, q4⟩ := s.cell k _ ex (by intro z; cases z)
      rw [f] at q1; cases q1
      obtain ⟨kvs, q, _⟩ := q4
      exact ⟨by decide, .base (.dT q)⟩
    · cases e
  | _ => simp [tyName] at e
/-- isinstance(x, T), isinstance(x, (T, U)) for built-in classes -/
def tysOf : List D → Option (List String)
  | [] => some []
  | .ty n :: r => (tysOf r).map (n :: ·)
  | _ => none
def isiF : List D → Hd → Res O
  | [d, .ty n], h => match tyName h d with
    | some t => if n ∈ tyKnown then .ok (.val (.bl (isT t n))) h else .bad
    | none => .bad
  | [d, .tup ts], h => match tyName h d, tysOf ts with
    | some t, some ns => if ∀ n ∈ ns, n ∈ tyKnown then .ok (.val (.bl (ns.any (isT t)))) h else .bad
    | _, _ => .bad
  | _, _ => .bad
theorem tysOf_ok {c : Ct} {w : Wd} : ∀ {ts : List D} {vs : List V} {ns : List String}, VRs c w ts vs → tysOf ts = some ns → vs = ns.map V.ty
  | [], vs, ns, r, e => by simp only [VRs] at r; simp only [tysOf, Option.some.injEq] at e; subst e; exact r
  | d :: ds, vs, ns, r, e => by
    cases d with
    | ty n =>
      simp only [tysOf, Option.map_eq_some_iff] at e
      obtain ⟨ns', e', rfl⟩ := e
      simp only [VRs] at r
      obtain ⟨v, us, rfl, r1, r2⟩ := r
      simp only [VR] at r1
      rw [r1, tysOf_ok r2 e']; rfl
    | _ => simp [tysOf] at e
theorem kitAny_ok {K : PySem.W.Frag} {t : String} (ht : t ∈ "NoneType" :: tyKnown) : ∀ {ns : List String}, (∀ n ∈ ns, n ∈ tyKnown) → PySem.W.kitAny K (.type t) (ns.map Value.type) = some (ns.any (isT t))
  | [], _ => kitAny_nil
  | n :: ns, hn => by
    have h1 := kit_ty (K := K) (isT_ok ht (hn n List.mem_cons_self))
    have h2 := kitAny_ok (K := K) ht fun m hm => hn m (List.mem_cons_of_mem _ hm)
    rw [List.map_cons, List.any_cons]
    refine kitAny_cons h1 (fun e => ?_) (fun e => ?_)
    · rw [h2, e]; rfl
    · rw [e]; rfl
def rIsiA (K : PySem.W.Frag) : List V → Hp → VK → Prop := fun xs H Q => rIsi K xs H Q ∨ rIsiT K xs H Q ∨ rIsiK K xs H Q
theorem call_isiA {X : Cx} : CallR X (.builtin "isinstance") (rIsiA X.K) := call_isi.or (call_isiT.or call_isiK)
theorem paired_ty : ∀ ns : List String, Paired ClsV (ns.map V.ty) (ns.map Value.type)
  | [] => .nil
  | n :: ns => .cons (.ty n) (paired_ty ns)
theorem s_isi {c : Ct} : CallS c (rIsiA c.K) isiF := fun {w W σ h H vs ds Q} s r p => by
  cases ds with
  | nil => exact p.elim
  | cons d ds =>
    cases ds with
    | nil => exact p.elim
    | cons e ds =>
      cases ds with
      | cons _ _ => cases e <;> exact p.elim
      | nil =>
        obtain ⟨v, u, rfl, r1, r2⟩ := r.two_inv
        cases e with
        | ty n =>
          simp only [isiF] at p
          split at p
          · rename_i t et
            split at p
            · rename_i hn
              obtain ⟨ht, tx⟩ := tyName_ok s r1 et
              simp only [VR] at r2; subst r2
              exact .inl ⟨v, .ty n, .type t, .type n, isT t n, rfl, .ty n, tx, kit_ty (isT_ok ht hn), p.ret (by simp only [RO, VR]) s⟩
            · exact p.elim
          · exact p.elim
        | tup ts =>
          simp only [isiF] at p
          split at p
          · rename_i t ns et en
            split at p
            · rename_i hn
              obtain ⟨ht, tx⟩ := tyName_ok s r1 et
              simp only [VR] at r2
              obtain ⟨a, us, rfl, q, z⟩ := r2
              have eus := tysOf_ok z en
              subst eus
              exact .inr (.inl ⟨v, a, _, .type t, _, _, rfl, s.F _ _ q, paired_ty ns, tx, kitAny_ok ht hn, p.ret (by simp only [RO, VR]) s⟩)
            · exact p.elim
          · exact p.elim
        | _ => exact p.elim
structure Ord {α : Type} (lt : α → α → Bool) : Prop where
  irr : ∀ a, lt a a = false
  tr : ∀ a b c, lt a b = true → lt b c = true → lt a c = true
  tri : ∀ a b, lt a b = false → lt b a = false → a = b
def insK {α : Type} (lt : α → α → Bool) (x : α) : List α → List α
  | [] => [x]
  | y :: r => if lt x y then x :: y :: r else if lt y x then y :: insK lt x r else y :: r
def sd {α : Type} (lt : α → α → Bool) (l : List α) : List α := l.foldr (insK lt) []
section
variable {α : Type} {lt : α → α → Bool}
theorem insK_mem (o : Ord lt) {x a : α} : ∀ {l : List α}, a ∈ insK lt x l ↔ a = x ∨ a ∈ l
  | [] => by simp [insK]
  | y :: r => by
    unfold insK
    split
    · simp
    · split
      · rw [List.mem_cons, insK_mem o (l := r), List.mem_cons]
        constructor
        · rintro (h | h | h)
          · exact .inr (.inl h)
          · exact .inl h
          · exact .inr (.inr h)
        · rintro (h | h | h)
          · exact .inr (.inl h)
          · exact .inl h
          · exact .inr (.inr h)
      · rename_i h1 h2
        have e : x = y := o.tri x y (by simpa using h1) (by simpa using h2)
        subst e
        simp
theorem sd_mem (o : Ord lt) {a : α} : ∀ {l : List α}, a ∈ sd lt l ↔ a ∈ l
  | [] => by simp [sd]
  | x :: r => by
    show a ∈ insK lt x (sd lt r) ↔ _
    rw [insK_mem o, sd_mem o (l := r), List.mem_cons]
abbrev Rise (lt : α → α → Bool) (l : List α) : Prop := l.Pairwise fun a b => lt a b = true
theorem insK_rise (o : Ord lt) {x : α} : ∀ {l : List α}, Rise lt l → Rise lt (insK lt x l)
  | [], _ => by simp [insK, Rise]
  | y :: r, h => by
    rw [Rise, List.pairwise_cons] at h
    unfold insK
    split
    · rename_i h1
      refine List.Pairwise.cons (fun a ha => ?_) (List.pairwise_cons.mpr h)
      rcases List.mem_cons.mp ha with e | ha
      · rw [e]; exact h1
      · exact o.tr _ _ _ h1 (h.1 a ha)
    · split
      · rename_i h1 h2
        refine List.Pairwise.cons (fun a ha => ?_) (insK_rise o h.2)
        rcases (insK_mem o).1 ha with e | ha
        · rw [e]; exact h2
        · exact h.1 a ha
      · exact List.pairwise_cons.mpr h
theorem sd_rise (o : Ord lt) : ∀ l : List α, Rise lt (sd lt l)
  | [] => by simp [sd, Rise]
  | x :: r => insK_rise o (sd_rise o r)
theorem rise_ext (o : Ord lt) : ∀ {l m : List α}, Rise lt l → Rise lt m → (∀ a, a ∈ l ↔ a ∈ m) → l = m
  | [], [], _, _, _ => rfl
  | [], y :: m, _, _, e => by have := (e y).2 List.mem_cons_self; cases this
  | x :: l, [], _, _, e => by have := (e x).1 List.mem_cons_self; cases this
  | x :: l, y :: m, h, g, e => by
    rw [Rise, List.pairwise_cons] at h g
    have exy : x = y := by
      rcases List.mem_cons.mp ((e x).1 List.mem_cons_self) with q | q
      · exact q
      · rcases List.mem_cons.mp ((e y).2 List.mem_cons_self) with q' | q'
        · exact q'.symm
        · have a := g.1 x q
          have b := h.1 y q'
          exact absurd (o.tr _ _ _ b a) (by rw [o.irr]; decide)
    subst exy
    have irr : ∀ {z : List α}, (∀ a ∈ z, lt x a = true) → x ∉ z := fun hz q => by
      have := hz x q
      rw [o.irr] at this; cases this
    rw [rise_ext o h.2 g.2 fun a => ?_]
    constructor
    · intro q
      rcases List.mem_cons.mp ((e a).1 (List.mem_cons_of_mem _ q)) with z | z
      · rw [z] at q; exact absurd q (irr h.1)
      · exact z
    · intro q
      rcases List.mem_cons.mp ((e a).2 (List.mem_cons_of_mem _ q)) with z | z
      · rw [z] at q; exact absurd q (irr g.1)
      · exact z
end
def ltI (a b : Int) : Bool := decide (a < b)
def ltS (a b : Str) : Bool := decide (a.cps.toList < b.cps.toList)
theorem str_ext {a b : Str} (h : a.cps.toList = b.cps.toList) : a = b := by
  obtain ⟨x⟩ := a
  obtain ⟨y⟩ := b
  exact congrArg Str.mk (Array.toList_inj.mp h)
theorem ordS : Ord ltS := by
  refine ⟨fun a => ?_, fun a b c h g => ?_, fun a b h g => ?_⟩
  · exact decide_eq_false (List.lt_irrefl _)
  · exact decide_eq_true (List.lt_trans (of_decide_eq_true h) (of_decide_eq_true g))
  · exact str_ext (List.le_antisymm (List.not_lt.mp (of_decide_eq_false g)) (List.not_lt.mp (of_decide_eq_false h)))
def keysI : List D → Option (List Int)
  | [] => some []
  | .int i :: r => (keysI r).map (i :: ·)
  | _ => none
def keysS : List D → Option (List Str)
  | [] => some []
  | .str i :: r => (keysS r).map (i :: ·)
  | _ => none
theorem keysI_ok {c : Ct} {w : Wd} : ∀ {ds : List D} {vs : List V} {ks : List Int}, VRs c w ds vs → keysI ds = some ks → vs = ks.map V.int
  | [], vs, bs, r, e => by simp only [VRs] at r; simp only [keysI, Option.some.injEq] at e; subst e; exact r
  | d :: ds, vs, bs, r, e => by
    cases d with
    | int b =>
      simp only [keysI, Option.map_eq_some_iff] at e
      obtain ⟨bs', e', rfl⟩ := e
      simp only [VRs] at r
      obtain ⟨v, us, rfl, r1, r2⟩ := r
      simp only [VR] at r1
      rw [r1, keysI_ok r2 e']; rfl
    | _ => simp [keysI] at e
theorem sortedS_rise : ∀ {l : List Str}, PyProof.Rows.sortedS l = true → l.Nodup → Rise ltS l
  | [], _, _ => .nil
  | [x], _, _ => by simp [Rise]
  | x :: y :: r, h, n => by
    have h' : PyProof.Rows.risingS x (y :: r) = true := h
    simp only [PyProof.Rows.risingS, Bool.and_eq_true, Bool.not_eq_true'] at h'
    have nd := List.nodup_cons.mp n
    have ih := sortedS_rise (l := y :: r) h'.2 nd.2
    have hxy : ltS x y = true := by
      cases q : ltS x y with
      | true => rfl
      | false =>
        have e : ltS y x = false := by
          have := h'.1
          rw [PyProof.Rows.ltCps_eq] at this
          exact this
        exact absurd (ordS.tri x y q e) (by rintro rfl; exact nd.1 List.mem_cons_self)
    refine List.Pairwise.cons (fun a ha => ?_) ih
    rcases List.mem_cons.mp ha with e | ha
    · rw [e]; exact hxy
    · exact ordS.tr _ _ _ hxy ((List.pairwise_cons.mp ih).1 a ha)
def ssF (d : D) (h : Hd) : Res O := match seqOf h d with
  | some xs => if xs.length + 1 < scanBound then (match keysI xs, keysS xs with
    | some ns, _ => .ok (.new (.lst ((sd ltI ns).map .int))) h
    | _, some ss => .ok (.new (.lst ((sd ltS ss).map .str))) h
    | _, _ => .bad) else .bad
  | none => .bad
theorem VRs_ints {c : Ct} {w : Wd} : ∀ l : List Int, VRs c w (l.map D.int) (l.map V.int)
  | [] => .nil
  | z :: l => .cons (by simp only [VR]) (VRs_ints l)
def mSS (m : ME) : Env → Hd → Res O := fun ρ h => (m ρ h).bind ssF
end DD
namespace DD
open PySem PySem.Spec L2 RZ
def rangeD (lo : Int) (n : Nat) : List D := (List.range n).map fun i => .int (lo + (i : Nat))
theorem srcRange {c : Ct} {w : Wd} {lo : Int} {n : Nat} : SrcOk c w ⟨rangeD lo n, fun _ => True⟩ (Itr lo n) := by
  have hl : (rangeD lo n).length = n := by simp [rangeD]
  refine ⟨_, _, (by rw [hl]; exact walk_range : Walk (Itr lo n) (rangeD lo n).length (fun _ => True) (YFn fun i => .int (lo + (i : Nat)))), fun _ _ _ _ _ _ => trivial, fun i x H2 H3 w2 h2 hi l s ck y => ?_⟩
  obtain ⟨rfl, rfl⟩ := y
  refine ⟨w2, .int (lo + i), .refl _, s, ?_, by simp only [VR]⟩
  rw [hl] at hi
  simp [rangeD, hi]
def range2F : List D → Option Src
  | [.int i, .int j] => if -(2 ^ 62) ≤ i ∧ i < 2 ^ 62 ∧ -(2 ^ 62) ≤ j ∧ j < 2 ^ 62 then some ⟨rangeD i (j - i).toNat, fun _ => True⟩ else none
  | _ => none
def mSrc (f : Hd → List D → Option Src) (m : MA) : MI := fun ρ h => (m ρ h).bind fun ds h => optR (f h ds) h
theorem range2_inv {ds : List D} {s : Src} (e : range2F ds = some s) : ∃ i j : Int, ds = [.int i, .int j] ∧ (-(2 ^ 62) ≤ i ∧ i < 2 ^ 62 ∧ -(2 ^ 62) ≤ j ∧ j < 2 ^ 62) ∧ s = ⟨rangeD i (j - i).toNat, fun _ => True⟩ := by
  unfold range2F at e
  split at e
  · split at e
    · rename_i hz; exact ⟨_, _, rfl, hz, (Option.some.inj e).symm⟩
    · cases e
  · cases e
/-- of two lists, of two tuples -/
def zipD (xs ys : List D) : List D := (xs.zip ys).map fun p => .tup [p.1, p.2]
def zipF (h : Hd) : List D → Option Src
  | [.tup xs, .tup ys] => some ⟨zipD xs ys, fun _ => True⟩
  | [x, y] => match lstOf h x, lstOf h y with
    | some xs, some ys => some ⟨zipD xs ys, fun h => lstOf h x = some xs ∧ lstOf h y = some ys⟩
    | _, _ => none
  | _ => none
theorem zipD_len (xs ys : List D) : (zipD xs ys).length = min xs.length ys.length := by simp [zipD]
theorem zipD_get {xs ys : List D} {i : Nat} {x y : D} (a : xs[i]? = some x) (b : ys[i]? = some y) : (zipD xs ys)[i]? = some (.tup [x, y]) := by
  have e : (xs.zip ys)[i]? = some (x, y) := List.getElem?_zip_eq_some.mpr ⟨a, b⟩
  simp only [zipD, List.getElem?_map, e, Option.map_some]
theorem srcZ {c : Ct} {w : Wd} {h0 : Hd} {H0 : Hp} {a b : Addr} {vs us : List V} {x y : D} {xs ys : List D} (s0 : SR c w h0 H0) (rx : VR c w x (.ref a)) (ry : VR c w y (.ref b)) :
    SrcOk c w ⟨zipD xs ys, fun h => lstOf h x = some xs ∧ lstOf h y = some ys⟩ (Itz c.K a b) := by
  refine ⟨fun H => ∃ vs us, SqL c.K H a vs ∧ SqL c.K H b us ∧ vs.length = xs.length ∧ us.length = ys.length, fun i H v H' => ∃ T x y, v = .ref T ∧ H T = none ∧ H' = upd H T (.tup [x, y]) ∧ (∀ xs, SqL c.K H a xs → xs[i]? = some x) ∧ ∀ ys, SqL c.K H b ys → ys[i]? = some y,
    ⟨fun i H hi g => ?_, fun H g => ?_, fun i H x H' hi g y => y⟩, fun w2 h2 H2 l s ck => ?_, fun i v H2 H3 w2 h2 hi l s ck y => ?_⟩
  · obtain ⟨vs, us, q1, q2, e1, e2⟩ := g
    rw [zipD_len] at hi
    have h1 : i < vs.length := by omega
    have h2 : i < us.length := by omega
    exact ⟨vs, us, vs[i], us[i], q1, q2, List.getElem?_eq_getElem h1, List.getElem?_eq_getElem h2⟩
  · obtain ⟨vs, us, q1, q2, e1, e2⟩ := g
    refine ⟨vs, us, q1, q2, ?_⟩
    rw [zipD_len]; omega
  · obtain ⟨ck1, ck2⟩ := ck
    obtain ⟨a2, vs2, ea2, q2, z2⟩ := lstOf_ok s (rx.le0 l.toLe0) ck1
    obtain ⟨b2, us2, eb2, q3, z3⟩ := lstOf_ok s (ry.le0 l.toLe0) ck2
    cases ea2; cases eb2
    exact ⟨vs2, us2, SqL.of q2, SqL.of q3, z2.len.symm, z3.len.symm⟩
  · obtain ⟨ck1, ck2⟩ := ck
    obtain ⟨a2, vs2, ea2, q2, z2⟩ := lstOf_ok s (rx.le0 l.toLe0) ck1
    obtain ⟨b2, us2, eb2, q3, z3⟩ := lstOf_ok s (ry.le0 l.toLe0) ck2
    cases ea2; cases eb2
    obtain ⟨T, p, q, rfl, hn, rfl, y1, y2⟩ := y
    obtain ⟨d1, e1, r1⟩ := z2.get' (y1 _ (SqL.of q2))
    obtain ⟨d2, e2, r2⟩ := z3.get' (y2 _ (SqL.of q3))
    obtain ⟨w3, l3, s3, r3⟩ := new_tup (ds := [d1, d2]) s (.cons r1 (.one r2)) hn
    exact ⟨w3, _, l3, s3, zipD_get e1 e2, r3⟩
theorem srcZT {c : Ct} {w : Wd} {a b : Addr} {vs us : List V} {xs ys : List D} (qa : TpAt c.K w.F a vs) (qb : TpAt c.K w.F b us) (rx : VRs c w xs vs) (ry : VRs c w ys us) : SrcOk c w ⟨zipD xs ys, fun _ => True⟩ (ItzT c.K a b) := by
  refine ⟨fun H => SqT c.K H a vs ∧ SqT c.K H b us, fun i H v H' => ∃ T x y, v = .ref T ∧ H T = none ∧ H' = upd H T (.tup [x, y]) ∧ (∀ xs, SqT c.K H a xs → xs[i]? = some x) ∧ ∀ ys, SqT c.K H b ys → ys[i]? = some y,
    ⟨fun i H hi g => ?_, fun H g => ?_, fun i H x H' hi g y => y⟩, fun w2 h2 H2 l s ck => ?_, fun i v H2 H3 w2 h2 hi l s ck y => ?_⟩
  · rw [zipD_len, rx.len, ry.len] at hi
    have h1 : i < vs.length := by omega
    have h2 : i < us.length := by omega
    exact ⟨vs, us, vs[i], us[i], g.1, g.2, List.getElem?_eq_getElem h1, List.getElem?_eq_getElem h2⟩
  · refine ⟨vs, us, g.1, g.2, ?_⟩
    rw [zipD_len, rx.len, ry.len]; omega
  · have f := fun a o q => s.F a o (l.F a o q)
    exact ⟨SqT_le f qa, SqT_le f qb⟩
  · have f := fun a o q => s.F a o (l.F a o q)
    obtain ⟨T, p, q, rfl, hn, rfl, y1, y2⟩ := y
    obtain ⟨d1, e1, r1⟩ := rx.get' (y1 _ (SqT_le f qa))
    obtain ⟨d2, e2, r2⟩ := ry.get' (y2 _ (SqT_le f qb))
    obtain ⟨w3, l3, s3, r3⟩ := new_tup (ds := [d1, d2]) s (.cons (r1.le0 l.toLe0) (.one (r2.le0 l.toLe0))) hn
    exact ⟨w3, _, l3, s3, zipD_get e1 e2, r3⟩
section
variable {X : Cx} {W : WX} {tg e e2 a b : Expr} {mas : MA} {ma mb : ME} {ta : MT} {x : Str} {p pos tpos : Pos}
theorem i_range2 (hm : X.mg "range" = none) (ha : SA X W [a, b] mas) (hg : Gl X "range" := by rfl) (hs : starEach [a, b] X.env = [(false, eval a X.env), (false, eval b X.env)] := by rfl) (hs2 : starEach [b] X.env = [(false, eval b X.env)] := by rfl) : SI X W tg (.Call (.Name "range" p) [a, b] [] pos) (mSrc (fun _ => range2F) mas) := PI.imp (pi_range2 hg hm ha hs hs2) fun σ H R q => by
  refine (tP.bind q).mono fun vs H1 ⟨w1, ρ, h1, ds, e1, s1, r1, p1⟩ => ?_
  obtain ⟨sr, eo, p2⟩ := optR_post p1
  obtain ⟨i, j, rfl, hz, rfl⟩ := range2_inv eo
  obtain ⟨v, u, rfl, r, r'⟩ := r1.two_inv
  simp only [VR] at r r'; subst r; subst r'
  exact ⟨i, j, rfl, hz, p2 _ w1 H1 (.refl _) srcRange s1⟩
theorem i_zip {elts : List Expr} {kk : Nat} (hm : X.mg "zip" = none) (ha : SA X W [e, e2] mas) (hg : Gl X "zip" := by rfl)
    (hs : starEach [e, e2] X.env = (false, eval e X.env) :: starEach [e2] X.env := by rfl) (hpl : (backTo pos (starEach [e2] X.env)).any (·.1) = false := by rfl) : SI X W (.Tuple elts kk tpos) (.Call (.Name "zip" p) [e, e2] [] pos) (mSrc zipF mas) := PI.imp (pi_zipA hg hm ha hs hpl) fun σ H R q => by
  refine (tP.bind q).mono fun vs H1 ⟨w1, ρ, h1, ds, e1, s1, r1, p1⟩ => ?_
  obtain ⟨sr, eo, p2⟩ := optR_post p1
  have fin : ∀ J, SrcOk (Cx.ct X) w1 sr J → R J H1 := fun J k => p2 J w1 H1 (.refl _) k s1
  have lists : ∀ x y, ds = [x, y] → (match lstOf h1 x, lstOf h1 y with | some xs, some ys => some (⟨zipD xs ys, fun h => lstOf h x = some xs ∧ lstOf h y = some ys⟩ : Src) | _, _ => none) = some sr →
      ∃ a b xs ys, vs = [.ref a, .ref b] ∧ ((SqL X.K H1 a xs ∧ SqL X.K H1 b ys ∧ R (Itz X.K a b) H1) ∨ (SqT X.K H1 a xs ∧ SqT X.K H1 b ys ∧ R (ItzT X.K a b) H1)) := fun x y e eo' => by
    subst e
    split at eo'
    · rename_i xs ys ex ey
      cases eo'
      obtain ⟨v, u, rfl, r, r'⟩ := r1.two_inv
      obtain ⟨a, vs, rfl, q1, z1⟩ := lstOf_ok s1 r ex
      obtain ⟨b, us, rfl, q2, z2⟩ := lstOf_ok s1 r' ey
      exact ⟨a, b, vs, us, rfl, .inl ⟨SqL.of q1, SqL.of q2, fin _ (srcZ (vs := vs) (us := us) s1 r r')⟩⟩
    · cases eo'
  match ds, eo with
  | [], eo => simp [zipF] at eo
  | [_], eo => simp [zipF] at eo
  | _ :: _ :: _ :: _, eo => simp [zipF] at eo
  | [x, y], eo =>
    cases x with
    | tup xs => cases y with
      | tup ys =>
        cases eo
        obtain ⟨v, u, rfl, r, r'⟩ := r1.two_inv
        simp only [VR] at r r'
        obtain ⟨a, vs, rfl, q1, z1⟩ := r
        obtain ⟨b, us, rfl, q2, z2⟩ := r'
        exact ⟨a, b, vs, us, rfl, .inr ⟨SqT_le s1.F q1, SqT_le s1.F q2, fin _ (srcZT q1 q2 z1 z2)⟩⟩
      | _ => exact lists _ _ rfl eo
    | _ => exact lists _ _ rfl eo
def joinF (a : Str) (y : D) (h : Hd) : Res O := match (lstOf h y).bind keysS with
  | some ss => if (ss.map (·.length)).sum + ss.length * a.length ≤ 16777216 then .ok (.val (.str (Txt.join a ss))) h else .bad
  | none => .bad
def onStr {α : Type} (f : Str → Hd → Res α) : D → Hd → Res α
  | .str a, h => f a h
  | _, _ => .bad
def mJoin (ma mb : ME) : Env → Hd → Res O := fun ρ h => (ma ρ h).bind <| onStr fun a h => (mb ρ h).bind fun y h => joinF a y h
end
def mChain (f f' : D → D → Hd → Res Bool) (ma mb mc : ME) : MT := fun ρ h => (ma ρ h).bind fun x h => (mb ρ h).bind fun y h => (f x y h).bind fun k h => if k then ((mc ρ h).bind fun z h => f' y z h) else .ok false h
section
variable {X : Cx} {W : WX} {a b c e : Expr} {es : List Expr} {ma mb mc : ME} {mas : MA} {pos p : Pos} {x : Str}
theorem chain_rd {ct : Ct} {r r' : R2} {f f' : D → D → Hd → Res Bool} (hs : OpB ct r f) (hs' : OpB ct r' f') (mono : ∀ x y H (Q Q' : VK), (∀ v H, Q v H → Q' v H) → r x y H Q → r x y H Q') {σ : L2.St} {H : Hp} {Q : Bool → Hp → Prop} (q : tT ct W (mChain f f' ma mb mc) σ H Q) :
    tChain r r' (tE ct W ma) (tE ct W mb) (tE ct W mc) σ H fun v H' => ∃ k, v = .bl k ∧ Q k H' := by
  refine (tP.bind q).mono fun v H1 ⟨w1, ρ, h1, d, e1, s1, r1, p1⟩ => ?_
  refine ⟨w1, ρ, h1, e1, s1, (Post.bind p1).mono fun u H2 ⟨w2, h2, d2, l2, r2, s2, p2⟩ => ?_⟩
  refine mono _ _ _ _ _ (fun z H3 ⟨k, e, q3⟩ => ⟨k, e, ?_⟩) (hs s2 (r1.le l2) r2 (Post.bind (R := RB) p2))
  obtain ⟨w3, h3, k', l3, ek, s3, p3⟩ := q3
  cases ek
  cases k with
  | false => exact ⟨false, rfl, p3.ret rfl s3⟩
  | true => exact ⟨w3, ρ, h3, (e1.le l2).le l3, s3, (Post.bind p3).mono fun z H4 ⟨w4, h4, d4, l4, r4, s4, p4⟩ => hs' s4 ((r2.le l3).le l4) r4 p4⟩
theorem t_chain {op op' : CmpOp} {r r' : R2} {f f' : D → D → Hd → Res Bool} (ho : OpR X (compareOp op) r) (ho' : OpR X (compareOp op') r') (hs : OpB (Cx.ct X) r f) (hs' : OpB (Cx.ct X) r' f') (mono : ∀ x y H (Q Q' : VK), (∀ v H, Q v H → Q' v H) → r x y H Q → r x y H Q')
    (ha : SE X W a ma) (hb : SE X W b mb) (hc : SE X W c mc) (hm : lastMarks [op, op'] [b, c] = false := by with_unfolding_all rfl) : ST X W (.Compare a [op, op'] [b, c] pos) (mChain f f' ma mb mc) :=
  PT.imp (pt_chain ho ho' ha hb hc hm) fun σ H Q q => chain_rd hs hs' mono q
theorem tB_post {ct : Ct} {m : MT} {σ : L2.St} {H : Hp} {Q : VK} (q : tE ct W (mB m) σ H Q) : tT ct W m σ H fun b H' => Q (.bl b) H' := by
  refine (tP.bind (R := RB) q).mono fun b H1 ⟨w1, ρ, h1, d, e1, s1, r1, p1⟩ => ?_
  cases r1
  exact p1.ret (by simp only [VR]) s1
theorem tChain_mono {r r' : R2} {ta tb tc : TE} {σ : L2.St} {H : Hp} {Q Q' : VK} (hta : ∀ σ H (Q Q' : VK), (∀ v H, Q v H → Q' v H) → ta σ H Q → ta σ H Q') (htb : ∀ σ H (Q Q' : VK), (∀ v H, Q v H → Q' v H) → tb σ H Q → tb σ H Q') (htc : ∀ σ H (Q Q' : VK), (∀ v H, Q v H → Q' v H) → tc σ H Q → tc σ H Q')
    (m : ∀ x y H (Q Q' : VK), (∀ v H, Q v H → Q' v H) → r x y H Q → r x y H Q') (m' : ∀ x y H (Q Q' : VK), (∀ v H, Q v H → Q' v H) → r' x y H Q → r' x y H Q') (i : ∀ v H, Q v H → Q' v H) (h : tChain r r' ta tb tc σ H Q) : tChain r r' ta tb tc σ H Q' :=
  hta _ _ _ _ (fun x H1 h => htb _ _ _ _ (fun y H2 h => m _ _ _ _ _ (fun z H3 ⟨k, e, h⟩ => ⟨k, e, by
    cases k with
    | true => exact htc _ _ _ _ (fun _ _ h => m' _ _ _ _ _ i h) h
    | false => exact i _ _ h⟩) h) h) h
theorem e_chain {op op' : CmpOp} {r r' : R2} {f f' : D → D → Hd → Res Bool} (ho : OpR X (compareOp op) r) (ho' : OpR X (compareOp op') r') (hs : OpB (Cx.ct X) r f) (hs' : OpB (Cx.ct X) r' f') (mono : ∀ x y H (Q Q' : VK), (∀ v H, Q v H → Q' v H) → r x y H Q → r x y H Q') (mono' : ∀ x y H (Q Q' : VK), (∀ v H, Q v H → Q' v H) → r' x y H Q → r' x y H Q')
    (ha : SE X W a ma) (hb : SE X W b mb) (hc : SE X W c mc) (hm : lastMarks [op, op'] [b, c] = false := by with_unfolding_all rfl) : SE X W (.Compare a [op, op'] [b, c] pos) (mB (mChain f f' ma mb mc)) :=
  PE.imp (pe_chain ho ho' ha hb hc hm) fun σ H Q q => tChain_mono (fun _ _ _ _ i h => tP.mono h i) (fun _ _ _ _ i h => tP.mono h i) (fun _ _ _ _ i h => tP.mono h i) mono mono' (fun v H ⟨k, e, q⟩ => e ▸ q) (chain_rd hs hs' mono (tB_post q))
def spM (c : Ct) (n : Nat) (m : List D → Hd → Res D) : Sp := fun vs H Q E => ∃ w ds h, VRs c w ds vs ∧ SR c w h H ∧ ds.length = n ∧ Post (RV c) c w (fun cls d _ H' => E cls d H') [] (m ds h) Q
def mCall (n : Nat) (m : List D → Hd → Res D) (ma : MA) : ME := fun ρ h => (ma ρ h).bind fun ds h => if ds.length = n then m ds h else .bad
end
def startD (n : Nat) (ds : List D) : Env := ds.map some ++ List.replicate (n - ds.length) none
theorem ER.start {c : Ct} {w : Wd} {N : List Str} {ds : List D} {vs : List V} (r : VRs c w ds vs) : ER c w (startD N.length ds) (L2.start N vs) := by
  refine ⟨by simp [startD, L2.start, r.len], fun i d e => ?_⟩
  unfold startD at e
  unfold L2.start
  by_cases hi : i < ds.length
  · rw [List.getElem?_append_left (by simpa using hi), List.getElem?_map] at e
    have e' : ds[i]? = some d := by
      cases q : ds[i]? with
      | none => rw [q] at e; cases e
      | some z => rw [q] at e; cases e; rfl
    obtain ⟨v, q, z⟩ := r.get e'
    have hv : i < vs.length := by rw [← r.len]; exact hi
    exact ⟨v, by rw [List.getElem?_append_left (by simpa using hv), List.getElem?_map, q]; rfl, z⟩
  · rw [List.getElem?_append_right (by simpa using hi)] at e
    rw [List.getElem?_replicate] at e
    split at e <;> cases e
def runB (n : Nat) (b : MS) (ds : List D) (h : Hd) : Res D := match b (startD n ds) h with
  | .nx _ h => .ok .non h
  | .rt d h => .ok d h
  | .exc x _ h => .exc x h
  | _ => .bad
theorem hu64 {k : Nat} {A : Around} (hr : Room k A) : A.units + 64 < cLine := hr.units
theorem hu65 {k : Nat} {A : Around} (hr : Room k A) : A.units + 65 < cLine := by have := hr.un; omega
section
variable {X : Cx} {W : WX} {a b c e e2 : Expr} {es : List Expr} {ma mb mc : ME} {ta : MT} {mas : MA} {m : Env → Hd → Res O} {sb : MS} {pos p : Pos} {x : Str} {k : Nat}
theorem mono_eqA {K : PySem.W.Frag} (x y : V) (H : Hp) (Q Q' : VK) (i : ∀ v H, Q v H → Q' v H) : rEqA K x y H Q → rEqA K x y H Q' := Or.imp (fun h => ⟨h.1, i _ _ h.2⟩) (fun ⟨d, e, a1, a2, a3, a4, a5, a6⟩ => ⟨d, e, a1, a2, a3, a4, a5, i _ _ a6⟩)
theorem mono_I0 {g : Int → Int → V} (x y : V) (H : Hp) (Q Q' : VK) (i : ∀ v H, Q v H → Q' v H) : rI0 g x y H Q → rI0 g x y H Q' := fun ⟨a, b, c, d, e⟩ => ⟨a, b, c, d, i _ _ e⟩
theorem mono_ltA (x y : V) (H : Hp) (Q Q' : VK) (i : ∀ v H, Q v H → Q' v H) : rLtA x y H Q → rLtA x y H Q' := Or.imp (mono_I0 x y H Q Q' i) (fun ⟨a, b, c, d, e⟩ => ⟨a, b, c, d, i _ _ e⟩)
theorem mono_is {f : V → Bool} (x y : V) (H : Hp) (Q Q' : VK) (i : ∀ v H, Q v H → Q' v H) : (y = .non ∧ Q (.bl (f x)) H) → (y = .non ∧ Q' (.bl (f x)) H) := fun h => ⟨h.1, i _ _ h.2⟩
theorem mono_rIn {K : PySem.W.Frag} {n : Bool} (x y : V) (H : Hp) (Q Q' : VK) (i : ∀ v H, Q v H → Q' v H) : rIn K n x y H Q → rIn K n x y H Q' := fun ⟨p, xs, a, b, c, d, q⟩ => ⟨p, xs, a, b, c, d, i _ _ q⟩
theorem mono_inA {K : PySem.W.Frag} (x y : V) (H : Hp) (Q Q' : VK) (i : ∀ v H, Q v H → Q' v H) : rInA K x y H Q → rInA K x y H Q' :=
  Or.imp (fun ⟨a, b, c, d, e⟩ => ⟨a, b, c, d, i _ _ e⟩) (Or.imp (fun ⟨a, b, c, d, e⟩ => ⟨a, b, c, d, i _ _ e⟩) (Or.imp (mono_rIn x y H Q Q' i) (fun ⟨a, b, c, d, e, f, g⟩ => ⟨a, b, c, d, e, f, i _ _ g⟩)))
theorem e_eq (hr : Room k X.A) (ha : SE X W a ma) (hb : SE X W b mb) : SE X W (.Compare a [.Eq] [b] pos) (mB (mCmp cEq ma mb)) := e_cmp mono_eqA (op_eqA (hu64 hr)) s_eq ha hb (nomark _)
theorem e_lt (ha : SE X W a ma) (hb : SE X W b mb) : SE X W (.Compare a [.Lt] [b] pos) (mB (mCmp cLt ma mb)) := e_cmp mono_ltA op_ltA s_lt ha hb (nomark _)
theorem e_gt (ha : SE X W a ma) (hb : SE X W b mb) : SE X W (.Compare a [.Gt] [b] pos) (mB (mCmp cGt ma mb)) := e_cmp mono_I0 op_gt s_gt ha hb (nomark _)
theorem e_is (ha : SE X W a ma) (hb : SE X W b mb) : SE X W (.Compare a [.Is] [b] pos) (mB (mCmp cIs ma mb)) := e_cmp mono_is op_isN s_is ha hb (nomark _)
theorem e_isnot (ha : SE X W a ma) (hb : SE X W b mb) : SE X W (.Compare a [.IsNot] [b] pos) (mB (mCmp cIsNot ma mb)) := e_cmp mono_is op_notN s_isnot ha hb (nomark _)
theorem e_in (hr : Room k X.A) (ha : SE X W a ma) (hb : SE X W b mb) (hm : behindInMarks .In b = false := by rfl) : SE X W (.Compare a [.In] [b] pos) (mB (mCmp cIn ma mb)) := e_cmp mono_inA (op_inA (hu65 hr)) s_in ha hb hm
theorem t_eq (hr : Room k X.A) (ha : SE X W a ma) (hb : SE X W b mb) : ST X W (.Compare a [.Eq] [b] pos) (mCmp cEq ma mb) := t_cmp (op_eqA (hu64 hr)) s_eq ha hb (nomark _)
theorem t_ne (hr : Room k X.A) (ha : SE X W a ma) (hb : SE X W b mb) : ST X W (.Compare a [.NotEq] [b] pos) (mCmp cNe ma mb) := t_cmp (op_neA (hu64 hr)) s_ne ha hb (nomark _)
theorem t_lt (ha : SE X W a ma) (hb : SE X W b mb) : ST X W (.Compare a [.Lt] [b] pos) (mCmp cLt ma mb) := t_cmp op_ltA s_lt ha hb (nomark _)
theorem t_gt (ha : SE X W a ma) (hb : SE X W b mb) : ST X W (.Compare a [.Gt] [b] pos) (mCmp cGt ma mb) := t_cmp op_gt s_gt ha hb (nomark _)
theorem t_ge (ha : SE X W a ma) (hb : SE X W b mb) : ST X W (.Compare a [.GtE] [b] pos) (mCmp cGe ma mb) := t_cmp op_ge s_ge ha hb (nomark _)
theorem t_is (ha : SE X W a ma) (hb : SE X W b mb) : ST X W (.Compare a [.Is] [b] pos) (mCmp cIs ma mb) := t_cmp op_isN s_is ha hb (nomark _)
theorem e_lele (ha : SE X W a ma) (hb : SE X W b mb) (hc : SE X W c mc) (hm : lastMarks [.LtE, .LtE] [b, c] = false := by with_unfolding_all rfl) : SE X W (.Compare a [.LtE, .LtE] [b, c] pos) (mB (mChain cLe cLe ma mb mc)) := e_chain op_le op_le s_le s_le mono_I0 mono_I0 ha hb hc hm
theorem t_lele (ha : SE X W a ma) (hb : SE X W b mb) (hc : SE X W c mc) (hm : lastMarks [.LtE, .LtE] [b, c] = false := by with_unfolding_all rfl) : ST X W (.Compare a [.LtE, .LtE] [b, c] pos) (mChain cLe cLe ma mb mc) := t_chain op_le op_le s_le s_le mono_I0 ha hb hc hm
theorem o_add (ha : SE X W a ma) (hb : SE X W b mb) : SO X W (.BinOp a .Add b pos) (mBin addF ma mb) := e_bin op_addA s_add ha hb
theorem o_sub (ha : SE X W a ma) (hb : SE X W b mb) : SO X W (.BinOp a .Sub b pos) (mBin subF ma mb) := e_bin op_sub s_sub ha hb
theorem o_mul (ha : SE X W a ma) (hb : SE X W b mb) : SO X W (.BinOp a .Mult b pos) (mBin mulF ma mb) := e_bin op_mulA s_mul ha hb
theorem o_fdiv (ha : SE X W a ma) (hb : SE X W b mb) : SO X W (.BinOp a .FloorDiv b pos) (mBin fdivF ma mb) := e_bin op_fdivW s_fdiv ha hb
theorem o_mod (ha : SE X W a ma) (hb : SE X W b mb) : SO X W (.BinOp a .Mod b pos) (mBin modF ma mb) := e_bin op_mod s_mod ha hb
theorem o_pow (ha : SE X W a ma) (hb : SE X W b mb) : SO X W (.BinOp a .Pow b pos) (mBin powF ma mb) := e_bin op_pow s_pow ha hb
theorem e_globI {i : Int} (hm : ∃ t, X.mg x = some (.int i t)) (hg : Gl X x := by rfl) (hd : (x == ("__debug__" : Str)) = false := by decide) : SE X W (.Name x p) (mC (.int i)) := by
  obtain ⟨t, hm⟩ := hm
  exact e_glob (v := .int i) hm ⟨t, rfl⟩ (fun w => by simp only [VR]) hg hd
theorem e_globS {z : Str} (hm : ∃ t, X.mg x = some (.str z t)) (hg : Gl X x := by rfl) (hd : (x == ("__debug__" : Str)) = false := by decide) : SE X W (.Name x p) (mC (.str z)) := by
  obtain ⟨t, hm⟩ := hm
  exact e_glob (v := .str z) hm ⟨t, rfl⟩ (fun w => by simp only [VR]) hg hd
theorem fz_rd (hm : ∀ ρ h z h', m ρ h = .ok (.new z) h' → isDc z = false) {ct : Ct} {σ : L2.St} {H : Hp} {Q : VK} (q : tE ct W (mFz m) σ H Q) : tP (RO ct) ct W m σ H Q := by
  obtain ⟨w, ρ, h, e, s, p⟩ := q
  refine ⟨w, ρ, h, e, s, ?_⟩
  unfold mFz at p
  cases q : m ρ h with
  | ok o h1 =>
    rw [q] at p
    intro v w1 H1 l r s1
    cases o with
    | val d => exact p v w1 H1 l r s1
    | new z =>
      obtain ⟨g, a, rfl, f, k⟩ := r
      obtain ⟨o, eo⟩ := k.some (dn g)
      obtain ⟨l2, s'⟩ := s1.fz f eo (k.plain (dn g) eo)
      exact p _ _ _ (l.trans l2) (VR_fz (od := ⟨.none, none, .fields #[], #[]⟩) k g eo l2 (by unfold fzO; rw [if_neg (by rw [hm _ _ _ _ q]; decide)]; show upd w1.F a o a = some o; exact upd_same)) s'
  | exc x h1 => rw [q] at p; exact p
  | bad => rw [q] at p; exact p
theorem mLc_lst {vs : List Nat} {mi : MI} {g : MG} {t : MT} {e : ME} : ∀ ρ h z h', mLc vs mi g t e ρ h = .ok (.new z) h' → isDc z = false := fun ρ h z h' q => by
  unfold mLc at q
  cases q1 : mi ρ h with
  | ok s h1 =>
    rw [q1] at q
    have q' : (lcGo s.chk g t e (wipeD ρ vs) s.items [] h1).bind (fun ds h => Res.ok (O.new (.lst ds)) h) = .ok (.new z) h' := q
    cases q2 : lcGo s.chk g t e (wipeD ρ vs) s.items [] h1 with
    | ok ds h2 => rw [q2] at q'; cases q'; rfl
    | exc x h2 => rw [q2] at q'; cases q'
    | bad => rw [q2] at q'; cases q'
  | exc x h1 => rw [q1] at q; cases q
  | bad => rw [q1] at q; cases q
theorem own_rd {ct : Ct} {σ : L2.St} {H : Hp} {Q : VK} (q : tE ct W (mOwn m) σ H Q) : tP (RO ct) ct W m σ H Q := by
  refine (tP.bind q).mono fun v H1 ⟨w1, ρ, h1, o, e, s, r, p⟩ => ?_
  cases o with
  | val d => exact p.ret r s
  | new z =>
    obtain ⟨g, a, rfl, f, k⟩ := r
    obtain ⟨l, s', r'⟩ := s.own f g k
    exact p _ _ _ l r' s'
theorem set_rd {ct : Ct} {i : Nat} {Dn : Ends} {σ : L2.St} {H : Hp} (q : tS ct W (mSet i ma) Dn σ H) : tE ct W ma σ H fun v H1 => Dn.nx (σ.set i (some v)) H1 := by
  refine (tS.lift q).mono fun v H1 ⟨w1, ρ, h1, d, e1, s1, r1, p1⟩ => ?_
  exact p1.nx (e1.set i r1) s1
variable {elt tg iter : Expr} {ifs : List Expr} {scope : Scope} {own : List (Str × Nat)} {mi : MI} {g : MG} {t : MT} {me : ME} {ix vs : List Nat} {py spos : Pos} {y : Str}
theorem s_lcFz (i : Nat) (hc : X.calm = true) (hN : X.N.Nodup) (hi : SI X W tg iter mi) (ok : BlkOk X.N X.env.scope scope own)
    (hg : ∀ (s : Shared) (H : Hp) (C : Addr) (cl : List (Str × Addr)) (fp : List Addr), SG (X.blk s H scope (compEnvC scope cl C X.env) fp) W0 ix tg g) (ht : ∀ (s : Shared) (H : Hp) (C : Addr) (cl : List (Str × Addr)) (fp : List Addr), STs (X.blk s H scope (compEnvC scope cl C X.env) fp) W0 ifs t)
    (he : ∀ (s : Shared) (H : Hp) (C : Addr) (cl : List (Str × Addr)) (fp : List Addr), SE (X.blk s H scope (compEnvC scope cl C X.env) fp) W0 elt me) (hy : X.N[i]? = some y := by rfl) (hyl : X.env.scope.names.lookup y = some .local := by rfl)
    (hsw : swapsWith (.ListComp elt [⟨tg, iter, ifs, 0⟩] scope pos) (some (.Name y py)) spos.line X.env = pure true := by exact sw_true rfl rfl rfl (by decide +kernel)) (hix : ∀ i ∈ ix, i ∈ own.map (·.2) := by decide) (hs : ∀ x, foldedSetIterable iter X.env x = pure x := by intro _; rfl) (hv : own.map (·.2) = vs := by rfl) :
    SS X W (.Assign [.Name y py] (.ListComp elt [⟨tg, iter, ifs, 0⟩] scope pos) spos) (mSet i (mFz (mLc vs mi g t me))) := by
  subst hv
  exact PS.imp (ps_setLc (g := tG (Cx.ct X) W0 ix g) (tt := tT (Cx.ct X) W0 t) (te := tE (Cx.ct X) W0 me) hc hN hy hyl hsw hi ok hg ht he hs) fun Dn σ H q => lc_rd hix (fz_rd mLc_lst (set_rd q))
end
/-- what is no table -/
def unT : Option HO → Option HO
  | some (.tbl _) => none
  | o => o
theorem unT_some {o : Option HO} {u : HO} (h : unT o = some u) : o = some u ∧ ∀ ps, u ≠ .tbl ps := by
  cases o with
  | none => cases h
  | some v =>
    cases v <;> first | (cases h; done) | (cases h; exact ⟨rfl, fun ps z => by cases z⟩)
theorem SqL_unT {K : PySem.W.Frag} {H : Hp} {a : Addr} {vs : List V} (h : SqL K H a vs) : SqL K (fun b => DD.unT (H b)) a vs := by
  rcases h with (h | ⟨o, h⟩) | h
  · exact .inl (.inl (by show DD.unT (H a) = _; rw [h]; rfl))
  · exact .inl (.inr ⟨o, by show DD.unT (H a) = _; rw [h]; rfl⟩)
  · exact .inr h
/-- the first state: the script, the tables -/
theorem sr_first {c : Ct} {H : Hp} (t : ∀ P, lawTab c.K c.mg P → H P = some (.tbl #[])) : SR c ⟨fun b => unT (H b), fun _ => none, fun _ => none⟩ [] H :=
  ⟨fun _ _ e => (unT_some e).1, fun _ _ e => (by cases e), fun _ _ e => (by cases e), fun r z e => (by simp at e), fun _ _ _ e => (by cases e), fun _ _ e => (by cases e),
    ⟨fun P l => ⟨⟨#[], t P l, True.intro, fun pos cv z => by
      have z' : codeAmong pos [] = some cv := z
      simp [codeAmong] at z'⟩, by show unT (H P) = none; rw [t P l]; rfl, rfl, fun r z => by cases z⟩, fun a o e => (unT_some e).2, fun a o e => by cases e⟩, fun r z e => by simp at e⟩
def mBadS : MS := fun _ _ => .bad
section
variable {X : Cx} {W : WX} {e : Expr} {st : Stmt} {sts : List Stmt} {pos p : Pos} {ma : ME}
theorem s_bad : SS X W st mBadS := ⟨fun _ _ _ _ _ _ ⟨_, _, _, _, _, p⟩ => p.elim⟩
theorem ss_bad : SSs X W sts mBadS := ⟨fun _ _ _ _ _ _ ⟨_, _, _, _, _, p⟩ => p.elim⟩
def mNeg (m : ME) : ME := fun ρ h => (m ρ h).bind fun d h => match d with
  | .int i => .ok (.int (-i)) h
  | _ => .bad
theorem e_neg (ha : SE X W e ma) : SE X W (.UnaryOp .USub e pos) (mNeg ma) := PE.imp (pe_un un_neg ha) fun σ H Q q => by
  refine (tP.bind q).mono fun v H1 ⟨w1, ρ, h1, d, e1, s1, r1, p1⟩ => ?_
  cases d with
  | int i => simp only [VR] at r1; exact ⟨i, r1, p1.ret (by simp only [VR]) s1⟩
  | _ => exact p1.elim
def mDict0 : Env → Hd → Res O := fun _ h => .ok (.new (.dct [] [])) h
theorem e_dict0 {pos : Pos} : SO X W (.Dict [] [] pos) mDict0 := PE.imp pe_dnewK fun σ H Q ⟨w, ρ, h, e, s, p⟩ d hd => by
  obtain ⟨s2, r2⟩ := new_obj (z := .dct [] []) (o := .dK []) s hd (by intro z; cases z) ⟨[], upd_same, rfl, .nil⟩
  exact p _ w _ (.refl _) r2 s2
def mDictT : Env → Hd → Res O := fun _ h => .ok (.new (.dtt [] [])) h
theorem e_dictT {pos : Pos} : SO X W (.Dict [] [] pos) mDictT := PE.imp pe_dnewT fun σ H Q ⟨w, ρ, h, e, s, p⟩ d hd => by
  obtain ⟨s2, r2⟩ := new_obj (z := .dtt [] []) (o := .dT []) s hd (by intro z; cases z) ⟨[], upd_same, rfl, .nil⟩
  exact p _ w _ (.refl _) r2 s2
end
structure Callee (P : Program) (w : World) (K : PySem.W.Frag) (mg : Str → Option Value) (base : Heap) (k : Nat) (x : Str) (n : Nat) (m : List D → Hd → Res D) : Prop where
  ex : ∃ (f : Addr) (fd : FuncData) (ps : List Str), FnOk P w K mg base (L2.CX P w) k f fd ps (spM ⟨K, mg⟩ n m) ∧ mg x = some (.ref f) ∧ PySem.W.keepIn K (.ref f) = true ∧ Binds K fd ps []
structure DefAt (K : PySem.W.Frag) (mg : Str → Option Value) (x : Str) (st : Stmt) (ps : List Str) (f : Addr) (fd : FuncData) : Prop where
  F : Fun K x x st f fd
  m : mg x = some (.ref f)
  b : Binds K fd ps []
section
variable {P : Program} {w : World} {K : PySem.W.Frag} {mg : Str → Option Value} {base : Heap} {x : Str} {st : Stmt} {ps : List Str} {f : Addr} {fd : FuncData} {k n : Nat} {m : List D → Hd → Res D}
theorem Callee.mono {j : Nat} (C : Callee P w K mg base j x n m) (h : j ≤ k) : Callee P w K mg base k x n m :=
  let ⟨f, fd, ps, F, a, b, c⟩ := C.ex
  ⟨f, fd, ps, F.mono h, a, b, c⟩
theorem def_mk {h : Heap} {oc : Value} {od an : Option Addr} {osl : Array (Option Value)} {kV doc pm cdv ct : Value} (X : K.In h) (G : h.Ns mainGlobals mg) (a : PySem.W.nsIn K mainGlobals x = some (some (.ref f)))
    (l : K.lookup f = some ⟨oc, od, .func (PySem.W.fnOf x x (defArgs st) (defBody st) (defScope st) .none kV doc pm an cdv ct), osl⟩) (c : PySem.W.codeIn K cdv x = true) (k : PySem.W.keepIn K (.ref f) = true)
    (hb : ∀ (kV doc pm : Value) (an : Option Addr) (cdv ct : Value) (us : List Value), us.length = ps.length → bindArgs (PySem.W.fnOf x x (defArgs st) (defBody st) (defScope st) .none kV doc pm an cdv ct) ⟨us, []⟩ = pure (ps.zip us)) :
    DefAt K mg x st ps f (PySem.W.fnOf x x (defArgs st) (defBody st) (defScope st) .none kV doc pm an cdv ct) :=
  have F := fun_mk (st := st) l c k
  ⟨F, PySem.W.mg_of X G a, F.binds hb⟩
end
end DD
namespace DD
open PySem PySem.Spec L2
/-- what is known of an own class of errors -/
structure ErrK (K : PySem.W.Frag) (mg : Str → Option Value) (x : Str) (C : Addr) : Prop where
  m : mg x = some (.ref C)
  k : PySem.W.keepIn K (.ref C) = true
  s : PySem.W.subIn K (.ref C) (.type "BaseException") = some true
  t : PySem.W.typeIn K (.ref C) = some (.type "type")
/-- .. of the kind ValueError, without an own __init__ -/
structure ErrV (K : PySem.W.Frag) (mg : Str → Option Value) (x : Str) (C : Addr) : Prop extends ErrK K mg x C where
  i : PySem.W.excIn K C HandSPX.veTail "ValueError.__new__" = true
theorem pmk_no {X : Cx} {C : Addr} {x : Str} {p pos : Pos} (V : ErrV X.K X.mg x C) (hg : Gl X x) (hdb : (x == ("__debug__" : Str)) = false := by decide) : PMk X (.Call (.Name x p) [] [] pos) (fun _ H Q => Q (.ref C) none H) := by
  intro pins s σ H Q I h
  refine wpAny_Call_Name_kw (ld_glob I hg V.m (PySem.W.callWith_K0 I.kIn V.k ?_) hdb)
  obtain ⟨bm, N, nm, qn, bs, hdct, sn, sub, ab, col, dd, k0, k1, k2, k3, k5, mN, oC, oN, ni, tl⟩ := exc_obj I.kIn V.i
  show wpAny _ _ (call (.ref C) []) _ _ _
  exact wpAny_call_exc_subT PySem.F.excBase_ValueError tl oC oN ni (fun h' e hm => mk_of I hm (raises_own V.s V.t) h (I.hok.gone hm.new)) (by show 0 ≤ sizeLine; omega)
def mRaise (c : Str) : MS := fun ρ h => .exc ⟨c, [], []⟩ ρ h
theorem s_raise {X : Cx} {W : WX} {C : Addr} {x : Str} {p pos pos' : Pos} (V : ErrV X.K X.mg x C) (hc : X.calm = true) (tk : Takes X W) (hg : Gl X x := by rfl) (hdb : (x == ("__debug__" : Str)) = false := by decide) : SS X W (.Raise (some (.Call (.Name x p) [] [] pos)) none pos') (mRaise x) :=
  PS.imp (ps_raise hc tk (pmk_no V hg hdb)) fun Dn σ H ⟨w, ρ, h, e, s, q⟩ => q (.ref C) none σ w H (.refl w) e s ⟨C, V.m, rfl, .inl ⟨rfl, rfl⟩⟩
end DD
namespace DD
open PySem PySem.Spec L2 PyProof.Rows
theorem flies_push {B h : Heap} {l : List PySem.Env} {a : Addr} {Z : Obj → Prop} (f : HandSPX.FlyingZ B l a Z h) (o : Obj) : HandSPX.FlyingZ B l a Z (h.push o) := by
  obtain ⟨f1, f2, f3, oe, vs, T, oT, ts, g1, g2, g3, g4, g5, g6, g7, g8, g9⟩ := f
  exact ⟨fun b u e => Heap.get?_push_of_some _ (f1 b u e), f2, f3.of_keeps fun b u e _ => ⟨u, Heap.get?_push_of_some _ e, rfl⟩, oe, vs, T, oT, ts, Heap.get?_push_of_some _ g1, g2, g3, g4, g5, g6, Heap.get?_push_of_some _ g7, g8, g9⟩
theorem upTo_push {h h' : Heap} (u : h.UpToSlots h') (o : Obj) : h.UpToSlots (h'.push o) := fun b x e nf => by
  obtain ⟨sl, q⟩ := u b x e nf
  exact ⟨sl, Heap.get?_push_of_some _ q⟩
/-- the clauses' wish: the first one is passed by, the second one takes it -/
def wTwo (K : PySem.W.Frag) (c1 c2 c3 : Value) (i : Nat) (ts : Addr → Value → Option Addr → TS) (Dn : Ends) : WX := fun cls d σ H =>
  PySem.W.exmOne K cls c1 = some false ∧ PySem.W.exmAny K cls [c2, c3] = some true ∧
    ∀ a, H a = none → ts a cls d { nx := fun σ' H' => Dn.nx (σ'.set i none) H', rt := Dn.rt, bk := fun σ' H' => Dn.bk (σ'.set i none) H', ct := fun σ' H' => Dn.ct (σ'.set i none) H' } (σ.set i (some (.ref a))) H
section
variable {X : Cx} {x1 x2 x3 n : Str} {c1 c2 c3 : Value} {i k : Nat} {body su1 suite : List Stmt} {b1 b₀ : Stmt} {np1 np2 np3 tp pos pos1 pos' : Pos} {tb : WX → TS} {ts : Addr → Value → Option Addr → TS}
theorem ps_two (hs : X.stack = X.env :: X.outer) (hf : X.env.frame = some X.env.locals) (nd : X.N.Nodup) (hi : X.N[i]? = some n) (kl : X.env.kindOf n = some .local) (hc1 : Names X x1 c1) (hc2 : Names X x2 c2) (hc3 : Names X x3 c3)
    (hb : ∀ (W : WX) (pn : List (Addr × Obj)) (xe : Value → Shared → Prop), Takes (X.tr pn xe) W → PassesOwn (model X.prog X.w) X.A X.env xe → PSs (X.tr pn xe) body (tb W))
    (hsu : ∀ (a : Addr) (oe : Obj) (cls : Value) (d : Option Addr) (pn : List (Addr × Obj)), Zc cls d oe → (∃ vs, oe.data = .fields vs) → PSs (X.suite a ((a, oe) :: pn)) (b₀ :: suite) (ts a cls d)) :
    PS X (.Try body [.ExceptHandler (some (.Name x1 np1)) (some n) (b1 :: su1) pos1, .ExceptHandler (some (.Tuple [.Name x2 np2, .Name x3 np3] k tp)) (some n) (b₀ :: suite) pos'] [] [] pos)
      (fun Dn σ H => tb (wTwo X.K c1 c2 c3 i ts Dn) Dn σ H) := by
  refine ⟨fun pins s σ H Dn I h => ?_⟩
  have okX := I.ok
  have fr0 : X.A.frames = some (X.env :: X.outer) := okX.frames.trans (congrArg some hs)
  have lc : Loc X.env.scope n := .inl kl
  refine wpAny_Try_except ?_
  refine wpAny_mono ((hb (wTwo X.K c1 c2 c3 i ts Dn) (X.pn ++ pins) (fun e s₁ => wpAny (model X.prog X.w) X.A (noteFrame e X.env) (fun _ s₂ => wpAny (model X.prog X.w) X.A (setFlight e none) (fun _ s₃ =>
    wpAny (model X.prog X.w) X.A (handleBy e X.env [.ExceptHandler (some (.Name x1 np1)) (some n) (b1 :: su1) pos1, .ExceptHandler (some (.Tuple [.Name x2 np2, .Name x3 np3] k tp)) (some n) (b₀ :: suite) pos']) (L2.SP X pins Dn) X.xe s₃) X.xe s₂) X.xe s₁)
      (fun u s' xx => ?_) PassesOwn.looking).run [] s σ H Dn (I.toTry _) h) (fun fl s1 z => ?_) (fun e s1 he => he)
  · obtain ⟨a, B, sI, pins', σ', H', cls, d, rfl, Jt, nb, up, sky, na, os, ag, no1, yes2, want⟩ := xx
    have J : Inv X pins σ' H' sI := Jt.ofTry okX
    rw [hs] at sky
    show wpAny (model X.prog X.w) X.A (noteFrame (.ref a) X.env) _ _ _
    refine Sky.land Zc.steady fr0 hf sky fun h3 fl3 up3 => ?_
    have up03 := up.trans up3
    have J3 : Inv X pins σ' H' { s' with heap := h3 } := J.landed nb fl3.1 up03 os ag
    obtain ⟨oe3, vs3, he3, hz3, hd3⟩ := fl3.there
    have nfr : a ∉ frs (X.env :: X.outer) := fun hm => by
      obtain ⟨_, o', e', hnf⟩ := fl3.2.2.1.mem hm
      rw [he3] at e'; cases e'
      exact hnf _ hd3
    have nL : a ≠ X.env.locals := fun z => nfr (List.mem_filterMap.mpr ⟨X.env, List.mem_cons_self, by rw [hf, z]⟩)
    have nF : a ∉ X.fs := fun hm => by
      obtain ⟨e, he, q⟩ := List.mem_filterMap.mp hm
      exact nfr (List.mem_filterMap.mpr ⟨e, List.mem_cons_of_mem _ he, q⟩)
    have S3 := J3.suite he3 hd3 na nL nF
    have nm : ∀ {x : Str} {c : Value} {np : Pos} {Q E : Value → Shared → Prop}, Names X x c → Q c { s' with heap := h3 } → wpAny (model X.prog X.w) (X.A.mark (some (.ref a))) (eval (.Name x np) X.env) Q E { s' with heap := h3 } := fun {x c np Q E} hc q => by
      obtain ⟨hg, hdbg, hm | ⟨hm, hv, hnn⟩⟩ := hc
      · exact ld_glob (X := X.suite a ((a, oe3) :: (X.pn ++ pins))) S3 hg hm q hdbg
      · exact ld_blt (X := X.suite a ((a, oe3) :: (X.pn ++ pins))) S3 hg hm hv q hnn hdbg
    have LT3 : PySem.W.Looks (model X.prog X.w) h3 (typeOf (.ref a)) cls := fun A Q E s k q => wpAny_typeOf_ref (k _ _ he3) (by rw [hz3.1]; exact q)
    -- the first clause
    refine wpAny_handleBy_cons (codeAny_handlers_test (nm hc1 ((PySem.W.exm_one (M := model X.prog X.w) J3.kIn LT3 no1).here ?_))) (by intro q; cases q)
    show wpAny _ X.A (handleBy (.ref a) X.env [.ExceptHandler (some (.Tuple [.Name x2 np2, .Name x3 np3] k tp)) (some n) (b₀ :: suite) pos']) _ _ _
    -- the second one
    refine wpAny_handleBy_cons (codeAny_handlers_test (wpAny_Tuple_spliced ?_)) (by intro q; cases q)
    show wpAny _ _ (spliced ((false, eval (.Name x2 np2) X.env) :: (false, eval (.Name x3 np3) X.env) :: [])) _ _ _
    refine Calls.spliced_cons (nm hc2 (Calls.spliced_cons (nm hc3 (Calls.spliced_nil ⟨by show 2 ≤ sizeLine; rw [sizeLine_eq]; omega, ?_⟩))))
    have fl5 := flies_push fl3 { cls := .type "tuple", data := .seq [c2, c3].toArray }
    have up5 := upTo_push up03 { cls := .type "tuple", data := .seq [c2, c3].toArray }
    have J5 : Inv X pins σ' H' { s' with heap := h3.push { cls := .type "tuple", data := .seq [c2, c3].toArray } } := J.landed nb fl5.1 up5 os ag
    have he5 := Heap.get?_push_of_some { cls := .type "tuple", data := .seq [c2, c3].toArray } he3
    have LT5 : PySem.W.Looks (model X.prog X.w) (h3.push { cls := .type "tuple", data := .seq [c2, c3].toArray }) (typeOf (.ref a)) cls := LT3.keeps fun b o e => Heap.get?_push_of_some _ e
    refine (PySem.W.exm_tup2 (M := model X.prog X.w) (e := a) J5.kIn LT5 (Heap.get?_push_size _ rfl) yes2).here ?_
    refine codeAny_handlers_suite_as ?_
    refine HandSPX.lands_againZ fl5 fun h4 fl4 up4 => ?_
    have J4 : Inv X pins σ' H' { s' with heap := h4 } := J.landed nb fl4.1 (up5.trans up4) os ag
    obtain ⟨oe4, vs4, he4, hz4, hd4⟩ := fl4.there
    have S4 := J4.suite he4 hd4 na nL nF
    refine store_ok (X := X.suite a ((a, oe4) :: (X.pn ++ pins))) (v := .ref a) S4 nd hi lc rfl (fun s5 S5 => ?_) (.inr kl)
    refine wpAny_mono ((hsu a oe4 cls d (X.pn ++ pins) hz4 ⟨_, hd4⟩).run [] s5 _ H' _ S5 (want a na)) (fun fl s6 z => ?_) (fun _ _ z => False.elim z)
    have out : ∀ {σ6 : L2.St} {H6 : Hp} {Q : Shared → Prop}, Inv (X.suite a ((a, oe4) :: (X.pn ++ pins))) [] σ6 H6 s6 → (∀ s7, Inv X pins (σ6.set i none) H6 s7 → Q s7) →
        wpAny (model X.prog X.w) X.A (do bindName X.env n .none; unbindBehindTheSuite X.env n pos') (fun _ s7 => Q s7) X.xe s6 := fun {σ6 H6 Q} S6 hq => gone_ok (S6.unsuite okX) nd hi kl hq
    cases fl with
    | ret u => exact let ⟨v6, σ6, H6, S6, r6, q6⟩ := z; out S6 fun s7 J7 => ⟨_, _, _, J7, r6, q6⟩
    | next => exact let ⟨σ6, H6, S6, q6⟩ := z; out S6 fun s7 J7 => ⟨_, _, J7, q6⟩
    | brk => exact let ⟨σ6, H6, S6, q6⟩ := z; out S6 fun s7 J7 => ⟨_, _, J7, q6⟩
    | cont => exact let ⟨σ6, H6, S6, q6⟩ := z; out S6 fun s7 J7 => ⟨_, _, J7, q6⟩
  · cases fl with
    | ret u => exact let ⟨v, σ', H', J', r, q⟩ := z; ⟨v, σ', H', J'.ofTry okX, r, q⟩
    | next => exact let ⟨σ', H', J', q⟩ := z; wpAny_execs_nil ⟨σ', H', J'.ofTry okX, q⟩
    | brk => exact let ⟨σ', H', J', q⟩ := z; ⟨σ', H', J'.ofTry okX, q⟩
    | cont => exact let ⟨σ', H', J', q⟩ := z; ⟨σ', H', J'.ofTry okX, q⟩
end
/-- a def without any work: it tells a text -/
structure SayK (K : PySem.W.Frag) (f : Addr) (t : Str) : Prop where
  ex : ∃ (name qual : Str) (params : Arguments) (j : Nat) (p p' : Pos) (scope : Scope) (dV kV doc pm cdv ct oc : Value) (an od : Option Addr) (osl : Array (Option Value)),
    K.lookup f = some ⟨oc, od, .func (PySem.W.fnOf name qual params [.Return (some (.Constant (.str t) j p)) p'] scope dV kV doc pm an cdv ct), osl⟩ ∧ PySem.W.codeIn K cdv qual = true ∧ FnScope ["self"] ["self"] scope ∧
      L2.Binds K (PySem.W.fnOf name qual params [.Return (some (.Constant (.str t) j p)) p'] scope dV kV doc pm an cdv ct) ["self"] []
  kp : PySem.W.keepIn K (.ref f) = true
  fn : PySem.W.isFn K (.ref f) = true
theorem say_run {X : Cx} {f : Addr} {t : Str} {pins : List (Addr × Obj)} {σ : L2.St} {H : Hp} {s : Shared} {a : Addr} {p : Addr × Obj} {Q : VK} (C : SayK X.K f t) (hd : X.A.depth < recursionLimit) (hp : p ∈ X.pn) (I : Inv X pins σ H s) (q : Q (.str t) H) :
    codeAny (model X.prog X.w) X.A (.call (.ref f) ⟨[.ref a], []⟩) (CR C8.CX0 X.stack X.prog X.w H s Q C8.E0) s := by
  obtain ⟨name, qual, params, j, p1, p2, scope, dV, kV, doc, pm, cdv, ct, oc, an, od, osl, lk, hcd, S, hb⟩ := C.ex
  have P1 := I.pin p (List.mem_append_left _ hp)
  have hpin : L2H.PinOk X.stack H s p := ⟨P1.1, P1.2.1, fun hm => (List.mem_cons.mp (I.stkSub p.1 hm)).elim P1.2.2.1 P1.2.2.2.1, P1.2.2.2.2⟩
  have lim : s.heap.NoLimit := I.env0.mod.nolimit.keeps fun b o e => (I.env0.bs b o e).1
  have kind1 : ∀ y ∈ (["self"] : List Str).zip [Value.ref a], scope.names.lookup y.1 = some .local ∨ (scope.names.lookup y.1 = some .cell ∧ ((cellsFrom (s.heap.objs.size + 1) scope.names []).lookup y.1).isSome = true) := fun ⟨y, v⟩ hy => by
    rcases S.par y (List.of_mem_zip hy).1 with q | q
    · exact .inl q
    · exact .inr ⟨q, PySem.W.cellsFrom_some _ _ _ (.inl q)⟩
  refine codeAny_call_function hd (I.kIn _ _ lk) rfl S.co S.gen rfl (PySem.W.codeRec_of I.kIn hcd) (hb s [.ref a] I.kIn rfl _ _ _ _ ?_)
  refine wpAny_newFunctionEnv_cells S.kind kind1 fun env he s1 x => ?_
  subst he
  refine ⟨lim.keeps x.toInCall.keep, codeAny_func ?_⟩
  have J : Inv (L2H.cxH C8.CX0 X.prog X.w X.K X.mg X.base ["self"] qual scope f cdv X.A X.stack s H C8.E0 p) [] (L2.start ["self"] [.ref a]) H s1 := L2H.inv_startH S hpin I.env0 rfl (.cons rfl .nil) x
  refine wpAny_mono ((pss_one (ps_ret pe_str)).run [] s1 (L2.start ["self"] [.ref a]) H { nx := fun _ H' => Q .non H', rt := Q } J q) (fun fl s' hs => ?_) fun e s' hs => hs
  cases fl with
  | ret u => exact let ⟨v, σ', H', J, rv, q⟩ := hs; ⟨v, H', J.os, J.bare, J.base, J.hok, rv, q⟩
  | next => exact let ⟨σ', H', J, q⟩ := hs; ⟨V.non, H', J.os, J.bare, J.base, J.hok, rfl, q⟩
  | brk => exact let ⟨_, _, _, q⟩ := hs; False.elim q
  | cont => exact let ⟨_, _, _, q⟩ := hs; False.elim q
/-- a class whose errors tell a text -/
structure CalK (K : PySem.W.Frag) (C : Addr) (t : Str) : Prop where
  ga : PySem.W.findIn K (.ref C) "__getattribute__" = some (some (.builtin "BaseException.__getattribute__"))
  gn : PySem.W.findIn K (.ref C) "__getattr__" = some none
  f : ∃ f, PySem.W.findIn K (.ref C) "called" = some (some (.ref f)) ∧ SayK K f t
theorem pe_called {X : Cx} {pl : Sem Bool} {a : Addr} {oe : Obj} {cls : Value} {d : Option Addr} {pn : List (Addr × Obj)} {o : Expr} {to : TE} {apos pos : Pos} (hz : Zc cls d oe) (hf : ∃ vs, oe.data = .fields vs) (hd : X.A.depth < recursionLimit) (he : PE (X.suite a ((a, oe) :: pn)) o to)
    (ht : eval (.Call (.Attribute o "called" apos) [] [] pos) X.env = (do
      let ov ← eval o X.env
      standAt apos.atName
      let (f, first) ← holding [ov] (getMethod ov "called" pl)
      callWith pos f first (backTo pos (starEach [] X.env)) (backToKw pos (keywordEach [] X.env))) := by rfl) :
    PE (X.suite a ((a, oe) :: pn)) (.Call (.Attribute o "called" apos) [] [] pos) (fun σ H Q => to σ H fun x H1 => x = .ref a ∧ d = none ∧ ∃ C t, cls = .ref C ∧ CalK X.K C t ∧ Q (.str t) H1) := by
  refine ⟨fun pins s σ H Q I h => ?_⟩
  refine PySem.W.methodCall_KW (pl := pl) (thn (he.run pins s σ H _ I h) fun u s1 ⟨x, H1, I1, rx, ex, ed, C, t, ec, T, q⟩ => ?_) ht
  subst ex ed ec
  obtain rfl : u = Value.ref a := rx
  obtain ⟨f, hfi, S⟩ := T.f
  obtain ⟨vs, hvs⟩ := hf
  have P1 : s1.heap.get? a = some oe := (I1.pin (a, oe) (List.mem_append_left _ (List.mem_cons_self ..))).1
  have IA : PySem.W.InstAt s1.heap a oe C none := ⟨P1, hz.1, by unfold PySem.W.notCls; rw [hvs], by rw [hz.2]; trivial⟩
  obtain ⟨m, hn, _⟩ := id I1.loc
  refine PySem.W.method_exc0 (K := X.K) (h₀ := X.base) (L := X.env.locals) ⟨hn, fun b o e => (I1.bs b o e).1, Nat.le_trans I1.ok.bsz I1.ok.above⟩ I1.ok.mod.kin IA T.ga T.gn hfi S.fn ?_
  refine PySem.W.callWith_K0 (first := [.ref a]) I1.kIn S.kp ?_
  refine wpAny_call (codeAny_mono (say_run (p := (a, oe)) S hd (List.mem_cons_self ..) I1 q) fun r s' hq => ?_)
  cases r with
  | error e => exact (show False from hq).elim
  | ok fl =>
    cases fl with
    | ret u => exact I1.after hq
    | next => exact False.elim hq
    | brk => exact False.elim hq
    | cont => exact False.elim hq
section
variable {X : Cx} {pins : List (Addr × Obj)} {σ : L2.St} {H : Hp} {s : Shared}
/-- the context of the def that got the lambda -/
abbrev inAsk (X : Cx) (Ng : List Str) (qg : Str) (sg : Scope) (g : Addr) (cdg : Value) (s : Shared) (H : Hp) : Cx := cxOf C8.CX0 X.prog X.w X.K X.mg X.base Ng qg sg g cdg X.A X.stack s H C8.E0
theorem lam_act {E : XK} {Ng : List Str} {qg : Str} {sg : Scope} {g f c' : Addr} {cdg pm ctv : Value} {params : Arguments} {body : Expr} {scope : Scope} {k i : Nat} {a : Str} {pn : List (Addr × Obj)} {xe : Value → Shared → Prop} {W : WX} {tb : TE} {p1 p2 : Pos}
    (I : Inv X pins σ H s) (L : LamX.LamS X.env.scope scope) (lies : s.heap.get? f = some (PySem.W.kla_obj "<lambda>" (X.env.qual ++ "<lambda>") params body scope (cloFrom X.env.cells scope.names []) pm c' ctv)) (new : H f = none) (nf : f ∉ frs X.stack)
    (bind0 : bindArgs (PySem.W.kla_fn "<lambda>" (X.env.qual ++ "<lambda>") params body scope (cloFrom X.env.cells scope.names []) pm (.ref c') ctv) ⟨[], []⟩ = pure [])
    (tk : Takes ((inAsk X Ng qg sg g cdg s H).tr pn xe) W) (room : Room (k + 1) (X.A.deeper (envOfC qg sg s.heap.objs.size g cdg)))
    (runs : ∀ (A : Around) (outer : List PySem.Env) (s : Shared) (H : Hp), A.guards = X.A.guards → Room k (A.deeper (LamX.lamEnv X scope s.heap.objs.size f c')) → PE (LamX.lamCx X A outer s H E scope f c') body tb)
    (hN : Ng[i]? = some a) (hv : Vis sg a) (hd : (a == ("__debug__" : Str)) = false := by decide) (hcd : (a == ("__classdict__" : Str)) = false := by decide) :
    PE ((inAsk X Ng qg sg g cdg s H).tr pn xe) (.Call (.Name a p1) [] [] p2)
      (fun σZ HZ Q => σZ[i]? = some (some (.ref f)) ∧ HZ c' = some (LamX.CodeO c' (X.env.qual ++ "<lambda>")) ∧ (∀ cls d H', E cls d H' → W cls d σZ H') ∧ tb σ HZ Q) := by
  refine ⟨fun pinsZ sZ σZ HZ Q IZ ⟨slot, code, esc, want⟩ => ?_⟩
  refine wpAny_Call_Name_kw (thn ((pe_var (pos := p1) (i := i) hN hv hd hcd).run pinsZ sZ σZ HZ (fun v H1 => v = .ref f ∧ H1 = HZ) IZ ⟨.ref f, slot, rfl, rfl⟩) fun u s1 ⟨v, H1, I1, r1, ev, eH⟩ => ?_)
  subst ev eH
  obtain rfl : u = Value.ref f := r1
  have lies1 := I1.base.keep f _ lies new nf (fun z => nomatch (show f ∈ ([] : List Addr) from z))
  refine PySem.W.callWith_F0 ⟨_, _, _, _, lies1⟩ ?_
  have un : Un (frs X.stack) [] H H1 s.heap s1.heap := I1.base
  obtain ⟨⟨oc, vs, t, hoc, hdc, hvc⟩, _, _⟩ := I1.hok c' _ code
  refine wpAny_call (codeAny_mono (R := CR (L2.CX X.prog X.w) (envOfC qg sg s.heap.objs.size g cdg :: X.stack) X.prog X.w H1 s1 Q E) ?_ fun r s' hq => ?_)
  · refine PySem.W.kla_callFunE room.depth lies1 rfl L.co L.gen rfl ⟨c', oc, vs, t, rfl, hoc, hdc, hvc⟩ ?_
    rw [show (⟨([] : List Value) ++ [], []⟩ : Args) = ⟨[], []⟩ from rfl, bind0]
    refine wpAny_pure (wpAny_newFunctionEnv (fun y hy => (L.own y hy).2) (fun y hy => absurd hy (by simp)) (fun h₁ hns hsb => ⟨I1.nolimit.fresh _ hsb, ?_⟩) L.kind)
    show codeAny _ _ (.expr body (LamX.lamEnv X scope s1.heap.objs.size f c')) _ _
    have J : Inv (LamX.lamCx X (X.A.deeper (envOfC qg sg s.heap.objs.size g cdg)) (envOfC qg sg s.heap.objs.size g cdg :: X.stack) s1 H1 E scope f c') [] σ H1 { s1 with heap := h₁, toks := s1.toks + ([] : List (Str × Value)).length } :=
      LamX.lam_start2 I L I1.env0 room.hd un hns fun b o e => hsb.extBut b o (Nat.ne_of_lt (Heap.lt_size e)) (Heap.get?_push_of_some _ e)
    exact PySem.W.kla_codeExpr (wpAny_mono ((runs _ _ s1 H1 (by first | rfl | simp [Around.deeper]) (room.deeper _)).run [] _ _ H1 Q J want) (fun v s' ⟨w', H', J', rv, q⟩ => ⟨w', H', J'.os, J'.bare, J'.base, J'.hok, rv, q⟩) fun e s' hq => hq)
  · cases r with
    | error e => exact tk _ _ (XE.of_call I1 esc hq)
    | ok fl =>
      cases fl with
      | ret u => exact I1.after hq
      | next => exact False.elim hq
      | brk => exact False.elim hq
      | cont => exact False.elim hq
/-- the def that got it: what it does with the lambda's reading -/
def AskTo (X : Cx) (Ng : List Str) (x : Str) (sg : Scope) (g : Addr) (cdg : Value) (bg : List Stmt) (a q : Str) (TT : (XK → Hp → VK → Prop) → Hp → VK → Prop) : Prop :=
  ∀ (f c' : Addr) (s : Shared) (H : Hp) (Q : VK) (tl : XK → Hp → VK → Prop), (∀ E H (Q Q' : VK), (∀ v H', Q v H' → Q' v H') → tl E H Q → tl E H Q') → Room 0 (X.A.deeper (envOfC x sg s.heap.objs.size g cdg)) →
    (∀ (E : XK) (W : WX) (pn : List (Addr × Obj)) (xe : Value → Shared → Prop) (p1 p2 : Pos), Takes ((inAsk X Ng x sg g cdg s H).tr pn xe) W →
      PE ((inAsk X Ng x sg g cdg s H).tr pn xe) (.Call (.Name a p1) [] [] p2) (fun σZ HZ Q => σZ[0]? = some (some (.ref f)) ∧ HZ c' = some (LamX.CodeO c' q) ∧ (∀ cls d H', E cls d H' → W cls d σZ H') ∧ tl E HZ Q)) →
    H c' = some (LamX.CodeO c' q) → TT tl H Q →
    ∃ t, PSs (inAsk X Ng x sg g cdg s H).nox bg t ∧ t { nx := fun _ H' => Q .non H', rt := Q } (L2.start Ng [.ref f]) H
theorem pe_asked {T : List (Addr × Str)} {TT : (XK → Hp → VK → Prop) → Hp → VK → Prop} {x a : Str} {g c P : Addr} {k : Nat} {pg : Arguments} {bg : List Stmt} {sg : Scope} {dV kV doc pm cdv ct oc : Value} {an od : Option Addr} {osl : Array (Option Value)} {Ng : List Str}
    {params : Arguments} {body : Expr} {scope : Scope} {t : XK → TE} {p lpos pos : Pos} (hg : Gl X x) (hm : X.mg x = some (.ref g)) (hk : PySem.W.keepIn X.K (.ref g) = true)
    (lk : X.K.lookup g = some ⟨oc, od, .func (PySem.W.fnOf x x pg bg sg dV kV doc pm an cdv ct), osl⟩) (hcg : PySem.W.codeIn X.K cdv x = true) (hb : L2.Binds X.K (PySem.W.fnOf x x pg bg sg dV kV doc pm an cdv ct) [a] []) (Sg : FnScope Ng [a] sg) (hNg : Ng[0]? = some a) (hva : Vis sg a)
    (hG : AskTo X Ng x sg g cdv bg a (X.env.qual ++ "<lambda>") TT)
    (TB : LamX.TabB X.base X.mg c P) (hcode : X.env.code = .ref c) (hmT : (P, X.env.qual ++ "<lambda>") ∈ T) (hu : ∀ p ∈ T, p.1 = P → p.2 = X.env.qual ++ "<lambda>") (hr : Room (k + 2) X.A) (L : LamX.LamS X.env.scope scope) (hdef : defaultsOf params X.env = ([], []))
    (bind0 : ∀ (q : Str) (cl : List (Str × Addr)) (pm cv ctv : Value), bindArgs (PySem.W.kla_fn "<lambda>" q params body scope cl pm cv ctv) ⟨[], []⟩ = pure [])
    (runs : ∀ (A : Around) (outer : List PySem.Env) (s : Shared) (H : Hp) (E : XK) (f c' : Addr), A.guards = X.A.guards → Room k (A.deeper (LamX.lamEnv X scope s.heap.objs.size f c')) → PE (LamX.lamCx X A outer s H E scope f c') body (t E))
    (mono : ∀ E σ H (Q Q' : VK), (∀ v H', Q v H' → Q' v H') → t E σ H Q → t E σ H Q')
    (hdb : (x == ("__debug__" : Str)) = false := by decide) (hd : (a == ("__debug__" : Str)) = false := by decide) (hcd : (a == ("__classdict__" : Str)) = false := by decide) :
    PE X (.Call (.Name x p) [.Lambda params body scope lpos] [] pos) (fun σ H Q => LamX.Tabs T H ∧ ∀ H1, LamX.ExtN H H1 → LamX.Tabs T H1 → TT (fun E H' Q' => t E σ H' Q') H1 Q) := by
  refine ⟨fun pins s σ H Q I ⟨hT, want⟩ => ?_⟩
  refine wpAny_Call_Name_kw (ld_glob I hg hm (PySem.W.callWith_K (h₀ := X.base) I.ok.mod.kin hk ?_ (by rfl) (by rfl)) hdb)
  show wpAny _ _ (spliced ((false, eval (.Lambda params body scope lpos) X.env) :: backTo pos (starEach [] X.env))) _ _ s
  refine Calls.spliced_cons (LamX.lam_make2 I TB hcode hmT hu hT hdef (L.has I.ok) fun f c' pm' ctv H1 s' I1 eN T1 lies new nf hco => Calls.spliced_nil ⟨I1.kIn, ?_⟩)
  refine wpAny_call (codeAny_mono (R := CR C8.CX0 X.stack X.prog X.w H1 s' Q C8.E0) (LamX.run_ofS (N := Ng) (ps := [a]) (us := [.ref f]) (vs := [.ref f]) lk hcg Sg hr I1.env0 (hb s' [.ref f] I1.kIn rfl) (.cons rfl .nil) rfl fun hr' => ?_) fun r s2 hq => ?_)
  · obtain ⟨t', ht', hq'⟩ := hG f c' s' H1 Q (fun E H' Q' => t E σ H' Q') (fun E H Q Q' i q => mono E σ H Q Q' i q) (hr'.mono (Nat.zero_le _)) (fun E W pn xe p1 p2 tk => lam_act (i := 0) I1 L lies new nf (bind0 _ _ _ _ _) tk hr' (fun A outer s H g hr2 => runs A outer s H E f c' g hr2) hNg hva hd hcd) hco (want H1 eN T1)
    exact ⟨t', ht'.nox, hq'⟩
  · cases r with
    | error e => exact (show False from hq).elim
    | ok fl =>
      cases fl with
      | ret u => exact I1.after hq
      | next => exact False.elim hq
      | brk => exact False.elim hq
      | cont => exact False.elim hq
end
end DD
namespace DD
open PySem PySem.Spec L2 RZ
section
variable {α β : Type} {a : α} {h : Hd} {ρ : Env}
@[simp] theorem Res.bind_ok (a : α) (h : Hd) (k : α → Hd → Res β) : (Res.ok a h).bind k = k a h := rfl
@[simp] theorem Res.bind_exc (x : Xc) (h : Hd) (k : α → Hd → Res β) : (Res.exc x h : Res α).bind k = .exc x h := rfl
@[simp] theorem Res.bind_bad (k : α → Hd → Res β) : (Res.bad : Res α).bind k = .bad := rfl
@[simp] theorem optR_some (a : α) (h : Hd) : optR (some a) h = .ok a h := rfl
@[simp] theorem optR_none (h : Hd) : optR (none : Option α) h = .bad := rfl
end
section
variable {h : Hd} {ρ : Env} {d e : D} {ma mb mc : ME} {ta tb : MT} {mas : MA} {mo : Env → Hd → Res O} {sa sb : MS} {i j : Nat} {f : D → D → Hd → Res O} {g g' : D → D → Hd → Res Bool} {fs : List D → Hd → Res O}
def varK (h : Hd) : Option (Option D) → Res D
  | some (some d) => .ok d h
  | _ => .bad
@[simp] theorem varK_some (d : D) : varK h (some (some d)) = .ok d h := rfl
@[simp] theorem mVar_k (i : Nat) (ρ : Env) (h : Hd) : mVar i ρ h = varK h ρ[i]? := by
  unfold mVar varK; split <;> simp_all
@[simp] theorem mC_k (d : D) (ρ : Env) (h : Hd) : mC d ρ h = .ok d h := rfl
def fzK : Res O → Res D
  | .ok o h => .ok o.fz h
  | .exc x h => .exc x h
  | .bad => .bad
@[simp] theorem fzK_ok (o : O) (h : Hd) : fzK (.ok o h) = .ok o.fz h := rfl
@[simp] theorem mFz_k (m : Env → Hd → Res O) (ρ : Env) (h : Hd) : mFz m ρ h = fzK (m ρ h) := by unfold mFz fzK; cases m ρ h <;> rfl
@[simp] theorem fz_val (d : D) : (O.val d).fz = d := rfl
@[simp] theorem fz_lst (xs : List D) : (O.new (.lst xs)).fz = .lst xs := rfl
@[simp] theorem fz_dct (ks us : List D) : (O.new (.dct ks us)).fz = .dct ks us := rfl
def ownK : Res O → Res D
  | .ok o h => ownO o h
  | .exc x h => .exc x h
  | .bad => .bad
@[simp] theorem ownK_val (d : D) (h : Hd) : ownK (.ok (.val d) h) = .ok d h := rfl
@[simp] theorem ownK_new (z : Cell) (h : Hd) : ownK (.ok (.new z) h) = .ok (.ref h.length) (h ++ [z]) := rfl
@[simp] theorem mOwn_k (m : Env → Hd → Res O) (ρ : Env) (h : Hd) : mOwn m ρ h = ownK (m ρ h) := by unfold mOwn ownK; cases m ρ h <;> rfl
def consK2 (d : D) : Res (List D) → Res (List D)
  | .ok ds h => .ok (d :: ds) h
  | .exc x h => .exc x h
  | .bad => .bad
def consK (r : MA) (ρ : Env) : Res D → Res (List D)
  | .ok d h => consK2 d (r ρ h)
  | .exc x h => .exc x h
  | .bad => .bad
@[simp] theorem consK2_ok (d : D) (ds : List D) (h : Hd) : consK2 d (.ok ds h) = .ok (d :: ds) h := rfl
@[simp] theorem consK_ok (r : MA) (ρ : Env) (d : D) (h : Hd) : consK r ρ (.ok d h) = consK2 d (r ρ h) := rfl
@[simp] theorem aNil_k (ρ : Env) (h : Hd) : aNil ρ h = .ok [] h := rfl
@[simp] theorem aCons_k (m : ME) (r : MA) (ρ : Env) (h : Hd) : aCons m r ρ h = consK r ρ (m ρ h) := by
  unfold aCons consK
  cases m ρ h with
  | ok d h => simp only [Res.bind_ok]; unfold consK2; cases r ρ h <;> rfl
  | _ => rfl
def tupK : Res (List D) → Res D
  | .ok ds h => if ds.length ≤ sizeLine then .ok (.tup ds) h else .bad
  | .exc x h => .exc x h
  | .bad => .bad
theorem sz_small {n : Nat} (h : n ≤ 1000) : n ≤ sizeLine := Nat.le_trans h (by decide)
theorem sz_big {n : Nat} (h : n ≤ 100000) : n ≤ sizeLine := Nat.le_trans h (by decide)
@[simp] theorem tupK_ok (ds : List D) (h : Hd) : tupK (.ok ds h) = if ds.length ≤ sizeLine then .ok (.tup ds) h else .bad := rfl
@[simp] theorem mTup_k (m : MA) (ρ : Env) (h : Hd) : mTup m ρ h = tupK (m ρ h) := by unfold mTup tupK; cases m ρ h <;> rfl
def lstK : Res (List D) → Res O
  | .ok ds h => if ds.length ≤ sizeLine then .ok (.new (.lst ds)) h else .bad
  | .exc x h => .exc x h
  | .bad => .bad
@[simp] theorem lstK_ok (ds : List D) (h : Hd) : lstK (.ok ds h) = if ds.length ≤ sizeLine then .ok (.new (.lst ds)) h else .bad := rfl
@[simp] theorem mLst_k (m : MA) (ρ : Env) (h : Hd) : mLst m ρ h = lstK (m ρ h) := by unfold mLst lstK; cases m ρ h <;> rfl
@[simp] theorem sl0 : (0 ≤ sizeLine) = True := by simp
@[simp] theorem sl1 : (1 ≤ sizeLine) = True := by simp [sizeLine_eq]
@[simp] theorem sl2 : (2 ≤ sizeLine) = True := by simp [sizeLine_eq]
@[simp] theorem sl3 : (3 ≤ sizeLine) = True := by simp [sizeLine_eq]
@[simp] theorem sl4 : (4 ≤ sizeLine) = True := by simp [sizeLine_eq]
@[simp] theorem sl5 : (5 ≤ sizeLine) = True := by simp [sizeLine_eq]
@[simp] theorem sl6 : (6 ≤ sizeLine) = True := by simp [sizeLine_eq]
@[simp] theorem sl7 : (7 ≤ sizeLine) = True := by simp [sizeLine_eq]
@[simp] theorem sl8 : (8 ≤ sizeLine) = True := by simp [sizeLine_eq]
def binK2 (f : D → D → Hd → Res O) (x : D) : Res D → Res O
  | .ok y h => f x y h
  | .exc x h => .exc x h
  | .bad => .bad
def binK (f : D → D → Hd → Res O) (mb : ME) (ρ : Env) : Res D → Res O
  | .ok x h => binK2 f x (mb ρ h)
  | .exc x h => .exc x h
  | .bad => .bad
@[simp] theorem binK2_ok (x y : D) (h : Hd) : binK2 f x (.ok y h) = f x y h := rfl
@[simp] theorem binK_ok (x : D) (h : Hd) : binK f mb ρ (.ok x h) = binK2 f x (mb ρ h) := rfl
@[simp] theorem mBin_k (f : D → D → Hd → Res O) (ma mb : ME) (ρ : Env) (h : Hd) : mBin f ma mb ρ h = binK f mb ρ (ma ρ h) := by
  unfold mBin binK
  cases ma ρ h with
  | ok d h => simp only [Res.bind_ok]; unfold binK2; cases mb ρ h <;> rfl
  | _ => rfl
def cmpK2 (f : D → D → Hd → Res Bool) (x : D) : Res D → Res Bool
  | .ok y h => f x y h
  | .exc x h => .exc x h
  | .bad => .bad
def cmpK (f : D → D → Hd → Res Bool) (mb : ME) (ρ : Env) : Res D → Res Bool
  | .ok x h => cmpK2 f x (mb ρ h)
  | .exc x h => .exc x h
  | .bad => .bad
@[simp] theorem cmpK2_ok (x y : D) (h : Hd) : cmpK2 g x (.ok y h) = g x y h := rfl
@[simp] theorem cmpK_ok (x : D) (h : Hd) : cmpK g mb ρ (.ok x h) = cmpK2 g x (mb ρ h) := rfl
@[simp] theorem mCmp_k (f : D → D → Hd → Res Bool) (ma mb : ME) (ρ : Env) (h : Hd) : mCmp f ma mb ρ h = cmpK f mb ρ (ma ρ h) := by
  unfold mCmp cmpK
  cases ma ρ h with
  | ok d h => simp only [Res.bind_ok]; unfold cmpK2; cases mb ρ h <;> rfl
  | _ => rfl
def chainK4 (f' : D → D → Hd → Res Bool) (y : D) : Res D → Res Bool
  | .ok z h => f' y z h
  | .exc x h => .exc x h
  | .bad => .bad
def chainK3 (f' : D → D → Hd → Res Bool) (mc : ME) (ρ : Env) (y : D) : Res Bool → Res Bool
  | .ok k h => if k then chainK4 f' y (mc ρ h) else .ok false h
  | .exc x h => .exc x h
  | .bad => .bad
def chainK2 (f f' : D → D → Hd → Res Bool) (mc : ME) (ρ : Env) (x : D) : Res D → Res Bool
  | .ok y h => chainK3 f' mc ρ y (f x y h)
  | .exc x h => .exc x h
  | .bad => .bad
def chainK (f f' : D → D → Hd → Res Bool) (mb mc : ME) (ρ : Env) : Res D → Res Bool
  | .ok x h => chainK2 f f' mc ρ x (mb ρ h)
  | .exc x h => .exc x h
  | .bad => .bad
@[simp] theorem chainK4_ok (y z : D) (h : Hd) : chainK4 g' y (.ok z h) = g' y z h := rfl
@[simp] theorem chainK3_ok (y : D) (k : Bool) (h : Hd) : chainK3 g' mc ρ y (.ok k h) = if k then chainK4 g' y (mc ρ h) else .ok false h := rfl
@[simp] theorem chainK2_ok (x y : D) (h : Hd) : chainK2 g g' mc ρ x (.ok y h) = chainK3 g' mc ρ y (g x y h) := rfl
@[simp] theorem chainK_ok (x : D) (h : Hd) : chainK g g' mb mc ρ (.ok x h) = chainK2 g g' mc ρ x (mb ρ h) := rfl
@[simp] theorem mChain_k (f f' : D → D → Hd → Res Bool) (ma mb mc : ME) (ρ : Env) (h : Hd) : mChain f f' ma mb mc ρ h = chainK f f' mb mc ρ (ma ρ h) := by
  unfold mChain chainK
  cases ma ρ h with
  | ok x h =>
    simp only [Res.bind_ok]; unfold chainK2
    cases mb ρ h with
    | ok y h =>
      simp only [Res.bind_ok]; unfold chainK3
      cases f x y h with
      | ok k h =>
        simp only [Res.bind_ok]
        cases k with
        | true => simp only [if_true]; unfold chainK4; cases mc ρ h <;> rfl
        | false => rfl
      | _ => rfl
    | _ => rfl
  | _ => rfl
def bK : Res Bool → Res D
  | .ok b h => .ok (.bl b) h
  | .exc x h => .exc x h
  | .bad => .bad
@[simp] theorem bK_ok (b : Bool) (h : Hd) : bK (.ok b h) = .ok (.bl b) h := rfl
@[simp] theorem mB_k (m : MT) (ρ : Env) (h : Hd) : mB m ρ h = bK (m ρ h) := by unfold mB bK; cases m ρ h <;> rfl
def truK : Res D → Res Bool
  | .ok d h => optR (truthD h d) h
  | .exc x h => .exc x h
  | .bad => .bad
@[simp] theorem truK_ok (d : D) (h : Hd) : truK (.ok d h) = optR (truthD h d) h := rfl
@[simp] theorem mTru_k (m : ME) (ρ : Env) (h : Hd) : mTru m ρ h = truK (m ρ h) := by unfold mTru truK; cases m ρ h <;> rfl
@[simp] theorem truth_bl (b : Bool) : truthD h (.bl b) = some b := rfl
@[simp] theorem truth_non : truthD h .non = some false := rfl
@[simp] theorem truth_int (n : Int) : truthD h (.int n) = some (n != 0) := rfl
@[simp] theorem truth_tup (xs : List D) : truthD h (.tup xs) = some (!xs.isEmpty) := rfl
@[simp] theorem truth_lst (xs : List D) : truthD h (.lst xs) = some (!xs.isEmpty) := rfl
def notK : Res Bool → Res Bool
  | .ok b h => .ok (!b) h
  | .exc x h => .exc x h
  | .bad => .bad
@[simp] theorem notK_ok (b : Bool) (h : Hd) : notK (.ok b h) = .ok (!b) h := rfl
@[simp] theorem mNot_k (m : MT) (ρ : Env) (h : Hd) : mNot m ρ h = notK (m ρ h) := by unfold mNot notK; cases m ρ h <;> rfl
def andK (k : MT) (ρ : Env) : Res Bool → Res Bool
  | .ok b h => if b then k ρ h else .ok false h
  | .exc x h => .exc x h
  | .bad => .bad
@[simp] theorem andK_ok (b : Bool) (h : Hd) : andK tb ρ (.ok b h) = if b then tb ρ h else .ok false h := rfl
@[simp] theorem mAnd_k (m k : MT) (ρ : Env) (h : Hd) : mAnd m k ρ h = andK k ρ (m ρ h) := by unfold mAnd andK; cases m ρ h <;> rfl
def orK (k : MT) (ρ : Env) : Res Bool → Res Bool
  | .ok b h => if b then .ok true h else k ρ h
  | .exc x h => .exc x h
  | .bad => .bad
@[simp] theorem orK_ok (b : Bool) (h : Hd) : orK tb ρ (.ok b h) = if b then .ok true h else tb ρ h := rfl
@[simp] theorem mOr_k (m k : MT) (ρ : Env) (h : Hd) : mOr m k ρ h = orK k ρ (m ρ h) := by unfold mOr orK; cases m ρ h <;> rfl
def ifK (a b : ME) (ρ : Env) : Res Bool → Res D
  | .ok k h => if k then a ρ h else b ρ h
  | .exc x h => .exc x h
  | .bad => .bad
@[simp] theorem ifK_ok (k : Bool) (h : Hd) : ifK ma mb ρ (.ok k h) = if k then ma ρ h else mb ρ h := rfl
@[simp] theorem mIf_k (t : MT) (a b : ME) (ρ : Env) (h : Hd) : mIf t a b ρ h = ifK a b ρ (t ρ h) := by unfold mIf ifK; cases t ρ h <;> rfl
def andVK (k : ME) (ρ : Env) : Res D → Res D
  | .ok (.bl b) h => if b then k ρ h else .ok (.bl false) h
  | .exc x h => .exc x h
  | _ => .bad
@[simp] theorem andVK_ok (b : Bool) (h : Hd) : andVK mb ρ (.ok (.bl b) h) = if b then mb ρ h else .ok (.bl false) h := rfl
@[simp] theorem mAndV_k (m k : ME) (ρ : Env) (h : Hd) : mAndV m k ρ h = andVK k ρ (m ρ h) := by
  unfold mAndV andVK
  cases m ρ h with
  | ok d h => cases d <;> rfl
  | _ => rfl
def orVK (k : ME) (ρ : Env) : Res D → Res D
  | .ok (.bl b) h => if b then .ok (.bl true) h else k ρ h
  | .exc x h => .exc x h
  | _ => .bad
@[simp] theorem orVK_ok (b : Bool) (h : Hd) : orVK mb ρ (.ok (.bl b) h) = if b then .ok (.bl true) h else mb ρ h := rfl
@[simp] theorem mOrV_k (m k : ME) (ρ : Env) (h : Hd) : mOrV m k ρ h = orVK k ρ (m ρ h) := by
  unfold mOrV orVK
  cases m ρ h with
  | ok d h => cases d <;> rfl
  | _ => rfl
def notVK2 (h : Hd) : Option Bool → Res D
  | some b => .ok (.bl (!b)) h
  | none => .bad
def notVK : Res D → Res D
  | .ok d h => notVK2 h (truthD h d)
  | .exc x h => .exc x h
  | .bad => .bad
@[simp] theorem notVK2_some (b : Bool) : notVK2 h (some b) = .ok (.bl (!b)) h := rfl
@[simp] theorem notVK_ok (d : D) (h : Hd) : notVK (.ok d h) = notVK2 h (truthD h d) := rfl
@[simp] theorem mNotV_k (m : ME) (ρ : Env) (h : Hd) : mNotV m ρ h = notVK (m ρ h) := by
  unfold mNotV notVK
  cases m ρ h with
  | ok d h => simp only [Res.bind_ok]; unfold notVK2; cases truthD h d <;> rfl
  | _ => rfl
def ixK2 (x : D) : Res D → Res D
  | .ok y h => optR (ixF h x y) h
  | .exc x h => .exc x h
  | .bad => .bad
def ixK (mb : ME) (ρ : Env) : Res D → Res D
  | .ok x h => ixK2 x (mb ρ h)
  | .exc x h => .exc x h
  | .bad => .bad
@[simp] theorem ixK2_ok (x y : D) (h : Hd) : ixK2 x (.ok y h) = optR (ixF h x y) h := rfl
@[simp] theorem ixK_ok (x : D) (h : Hd) : ixK mb ρ (.ok x h) = ixK2 x (mb ρ h) := rfl
@[simp] theorem mIx_k (ma mb : ME) (ρ : Env) (h : Hd) : mIx ma mb ρ h = ixK mb ρ (ma ρ h) := by
  unfold mIx ixK
  cases ma ρ h with
  | ok d h => simp only [Res.bind_ok]; unfold ixK2; cases mb ρ h <;> rfl
  | _ => rfl
def ixL (i : Int) : Option (List D) → Option D
  | some xs => atI xs i
  | none => none
@[simp] theorem ixL_some (i : Int) (xs : List D) : ixL i (some xs) = atI xs i := rfl
@[simp] theorem ixF_tup (xs : List D) (i : Int) : ixF h (.tup xs) (.int i) = atI xs i := rfl
@[simp] theorem ixF_lst (xs : List D) (i : Int) : ixF h (.lst xs) (.int i) = atI xs i := rfl
@[simp] theorem ixF_rol (xs : List D) (i : Int) : ixF h (.rol xs) (.int i) = atI xs i := rfl
@[simp] theorem ixF_ref (r : Nat) (i : Int) : ixF h (.ref r) (.int i) = ixL i (lstOf h (.ref r)) := by
  rw [ixF_seq (by intro s q; cases q)]
  show (lstOf h (.ref r)).bind _ = _
  cases lstOf h (.ref r) <;> rfl
def cellL : Option Cell → Option (List D)
  | some (.lst xs) => some xs
  | _ => none
@[simp] theorem cellL_lst (xs : List D) : cellL (some (.lst xs)) = some xs := rfl
@[simp] theorem lstOf_ref (r : Nat) : lstOf h (.ref r) = cellL h[r]? := by
  show (match h[r]? with | some (.lst xs) => some xs | _ => none) = _
  unfold cellL; rfl
@[simp] theorem lstOf_lst (xs : List D) : lstOf h (.lst xs) = some xs := rfl
@[simp] theorem seqOf_lst (xs : List D) : seqOf h (.lst xs) = some xs := rfl
@[simp] theorem seqOf_tup (xs : List D) : seqOf h (.tup xs) = some xs := rfl
@[simp] theorem seqOf_rol (xs : List D) : seqOf h (.rol xs) = some xs := rfl
@[simp] theorem seqOf_ref (r : Nat) : seqOf h (.ref r) = cellL h[r]? := (lstOf_ref r)
def slK3 (d : D) (lo : Option Int) : Res (Option Int) → Res O
  | .ok hi h => optR (slF h d lo hi) h
  | .exc x h => .exc x h
  | .bad => .bad
def slK2 (mh : MO) (ρ : Env) (d : D) : Res (Option Int) → Res O
  | .ok lo h => slK3 d lo (mh ρ h)
  | .exc x h => .exc x h
  | .bad => .bad
def slK (ml mh : MO) (ρ : Env) : Res D → Res O
  | .ok d h => slK2 mh ρ d (ml ρ h)
  | .exc x h => .exc x h
  | .bad => .bad
@[simp] theorem slK3_ok (d : D) (lo hi : Option Int) (h : Hd) : slK3 d lo (.ok hi h) = optR (slF h d lo hi) h := rfl
@[simp] theorem slK2_ok (mh : MO) (d : D) (lo : Option Int) (h : Hd) : slK2 mh ρ d (.ok lo h) = slK3 d lo (mh ρ h) := rfl
@[simp] theorem slK_ok (ml mh : MO) (d : D) (h : Hd) : slK ml mh ρ (.ok d h) = slK2 mh ρ d (ml ρ h) := rfl
@[simp] theorem mSl_k (m : ME) (ml mh : MO) (ρ : Env) (h : Hd) : mSl m ml mh ρ h = slK ml mh ρ (m ρ h) := by
  unfold mSl slK
  cases m ρ h with
  | ok d h =>
    simp only [Res.bind_ok]; unfold slK2
    cases ml ρ h with
    | ok lo h => simp only [Res.bind_ok]; unfold slK3; cases mh ρ h <;> rfl
    | _ => rfl
  | _ => rfl
@[simp] theorem oNone_k (ρ : Env) (h : Hd) : oNone ρ h = .ok none h := rfl
def osK : Res D → Res (Option Int)
  | .ok (.int i) h => .ok (some i) h
  | .exc x h => .exc x h
  | _ => .bad
@[simp] theorem osK_ok (i : Int) (h : Hd) : osK (.ok (.int i) h) = .ok (some i) h := rfl
@[simp] theorem oSome_k (m : ME) (ρ : Env) (h : Hd) : oSome m ρ h = osK (m ρ h) := by
  unfold oSome osK
  cases m ρ h with
  | ok d h => cases d <;> rfl
  | _ => rfl
@[simp] theorem slF_tup (xs : List D) (lo hi : Option Int) : slF h (.tup xs) lo hi = some (.val (.tup (cutL xs lo hi))) := rfl
@[simp] theorem slF_lst (xs : List D) (lo hi : Option Int) : slF h (.lst xs) lo hi = some (.new (.lst (cutL xs lo hi))) := rfl
@[simp] theorem slF_rol (xs : List D) (lo hi : Option Int) : slF h (.rol xs) lo hi = some (.new (.lst (cutL xs lo hi))) := rfl
def biK (f : List D → Hd → Res O) : Res (List D) → Res O
  | .ok ds h => f ds h
  | .exc x h => .exc x h
  | .bad => .bad
@[simp] theorem biK_ok (ds : List D) (h : Hd) : biK fs (.ok ds h) = fs ds h := rfl
@[simp] theorem mBi_k (f : List D → Hd → Res O) (m : MA) (ρ : Env) (h : Hd) : mBi f m ρ h = biK f (m ρ h) := by unfold mBi biK; cases m ρ h <;> rfl
def callK (n : Nat) (m : List D → Hd → Res D) : Res (List D) → Res D
  | .ok ds h => if ds.length = n then m ds h else .bad
  | .exc x h => .exc x h
  | .bad => .bad
@[simp] theorem callK_ok (n : Nat) (m : List D → Hd → Res D) (ds : List D) (h : Hd) : callK n m (.ok ds h) = if ds.length = n then m ds h else .bad := rfl
@[simp] theorem mCall_k (n : Nat) (m : List D → Hd → Res D) (ma : MA) (ρ : Env) (h : Hd) : mCall n m ma ρ h = callK n m (ma ρ h) := by unfold mCall callK; cases ma ρ h <;> rfl
def seqK (b : MS) : Fl → Fl
  | .nx ρ h => b ρ h
  | r => r
@[simp] theorem seqK_nx (b : MS) (ρ : Env) (h : Hd) : seqK b (.nx ρ h) = b ρ h := rfl
@[simp] theorem seqK_rt (b : MS) (d : D) (h : Hd) : seqK b (.rt d h) = .rt d h := rfl
@[simp] theorem seqK_exc (b : MS) (x : Xc) (ρ : Env) (h : Hd) : seqK b (.exc x ρ h) = .exc x ρ h := rfl
@[simp] theorem mSeq_k (a b : MS) (ρ : Env) (h : Hd) : mSeq a b ρ h = seqK b (a ρ h) := by unfold mSeq seqK; cases a ρ h <;> rfl
@[simp] theorem mNil_k (ρ : Env) (h : Hd) : mNil ρ h = .nx ρ h := rfl
def ifSK (a b : MS) (ρ : Env) : Res Bool → Fl
  | .ok k h => if k then a ρ h else b ρ h
  | .exc x h => .exc x ρ h
  | .bad => .bad
@[simp] theorem ifSK_ok (a b : MS) (k : Bool) (h : Hd) : ifSK a b ρ (.ok k h) = if k then a ρ h else b ρ h := rfl
@[simp] theorem mIfS_k (t : MT) (a b : MS) (ρ : Env) (h : Hd) : mIfS t a b ρ h = ifSK a b ρ (t ρ h) := by unfold mIfS liftR ifSK; cases t ρ h <;> rfl
def retK (ρ : Env) : Res D → Fl
  | .ok d h => .rt d h
  | .exc x h => .exc x ρ h
  | .bad => .bad
@[simp] theorem retK_ok (d : D) (h : Hd) : retK ρ (.ok d h) = .rt d h := rfl
@[simp] theorem retK_exc (x : Xc) (h : Hd) : retK ρ (.exc x h) = .exc x ρ h := rfl
@[simp] theorem mRet_k (m : ME) (ρ : Env) (h : Hd) : mRet m ρ h = retK ρ (m ρ h) := by unfold mRet liftR retK; cases m ρ h <;> rfl
@[simp] theorem mRetN_k (ρ : Env) (h : Hd) : mRetN ρ h = .rt .non h := rfl
def exprK (ρ : Env) : Res D → Fl
  | .ok _ h => .nx ρ h
  | .exc x h => .exc x ρ h
  | .bad => .bad
@[simp] theorem exprK_ok (d : D) (h : Hd) : exprK ρ (.ok d h) = .nx ρ h := rfl
@[simp] theorem exprK_exc (x : Xc) (h : Hd) : exprK ρ (.exc x h) = .exc x ρ h := rfl
@[simp] theorem mExpr_k (m : ME) (ρ : Env) (h : Hd) : mExpr m ρ h = exprK ρ (m ρ h) := by unfold mExpr liftR exprK; cases m ρ h <;> rfl
def setK (i : Nat) (ρ : Env) : Res D → Fl
  | .ok d h => .nx (ρ.set i (some d)) h
  | .exc x h => .exc x ρ h
  | .bad => .bad
@[simp] theorem setK_ok (i : Nat) (d : D) (h : Hd) : setK i ρ (.ok d h) = .nx (ρ.set i (some d)) h := rfl
@[simp] theorem setK_exc (i : Nat) (x : Xc) (h : Hd) : setK i ρ (.exc x h) = .exc x ρ h := rfl
@[simp] theorem mSet_k (i : Nat) (m : ME) (ρ : Env) (h : Hd) : mSet i m ρ h = setK i ρ (m ρ h) := by unfold mSet liftR setK; cases m ρ h <;> rfl
def asgK2 (ρ : Env) : Res Env → Fl
  | .ok ρ h => .nx ρ h
  | .exc x h => .exc x ρ h
  | .bad => .bad
def asgK (g : MG) (ρ : Env) : Res D → Fl
  | .ok d h => asgK2 ρ (g d ρ h)
  | .exc x h => .exc x ρ h
  | .bad => .bad
@[simp] theorem asgK2_ok (ρ ρ1 : Env) (h : Hd) : asgK2 ρ (.ok ρ1 h) = .nx ρ1 h := rfl
@[simp] theorem asgK_ok (g : MG) (d : D) (h : Hd) : asgK g ρ (.ok d h) = asgK2 ρ (g d ρ h) := rfl
@[simp] theorem asgK_exc (g : MG) (x : Xc) (h : Hd) : asgK g ρ (.exc x h) = .exc x ρ h := rfl
@[simp] theorem mAsg_k (m : ME) (g : MG) (ρ : Env) (h : Hd) : mAsg m g ρ h = asgK g ρ (m ρ h) := by
  unfold mAsg liftR asgK
  cases m ρ h with
  | ok d h => simp only []; unfold asgK2; cases g d ρ h <;> rfl
  | _ => rfl
@[simp] theorem gSet_k (i : Nat) (d : D) (ρ : Env) (h : Hd) : gSet i d ρ h = .ok (ρ.set i (some d)) h := rfl
@[simp] theorem gsNil_k (ρ : Env) (h : Hd) : gsNil [] ρ h = .ok ρ h := rfl
def gsK (gs : MGs) (r : List D) : Res Env → Res Env
  | .ok ρ h => gs r ρ h
  | .exc x h => .exc x h
  | .bad => .bad
@[simp] theorem gsK_ok (gs : MGs) (r : List D) (ρ : Env) (h : Hd) : gsK gs r (.ok ρ h) = gs r ρ h := rfl
@[simp] theorem gsCons_k (g : MG) (gs : MGs) (d : D) (r : List D) (ρ : Env) (h : Hd) : gsCons g gs (d :: r) ρ h = gsK gs r (g d ρ h) := by
  show (g d ρ h).bind _ = _
  unfold gsK; cases g d ρ h <;> rfl
@[simp] theorem gTupM_k (n : Nat) (gs : MGs) (xs : List D) (ρ : Env) (h : Hd) : gTupM n gs (.tup xs) ρ h = if xs.length = n then gs xs ρ h else .bad := rfl
def gSubK3 (ρ : Env) : Option Hd → Res Env
  | some h => .ok ρ h
  | none => .bad
def gSubK2 (d : D) (ρ : Env) (o : D) : Res D → Res Env
  | .ok i h => gSubK3 ρ (setF o i d h)
  | .exc x h => .exc x h
  | .bad => .bad
def gSubK (mi : ME) (d : D) (ρ : Env) : Res D → Res Env
  | .ok o h => gSubK2 d ρ o (mi ρ h)
  | .exc x h => .exc x h
  | .bad => .bad
@[simp] theorem gSubK3_some (h : Hd) : gSubK3 ρ (some h) = .ok ρ h := rfl
@[simp] theorem gSubK2_ok (d o i : D) (h : Hd) : gSubK2 d ρ o (.ok i h) = gSubK3 ρ (setF o i d h) := rfl
@[simp] theorem gSubK_ok (mi : ME) (d o : D) (h : Hd) : gSubK mi d ρ (.ok o h) = gSubK2 d ρ o (mi ρ h) := rfl
@[simp] theorem gSub_k (mo mi : ME) (d : D) (ρ : Env) (h : Hd) : DD.gSub mo mi d ρ h = gSubK mi d ρ (mo ρ h) := by
  unfold DD.gSub gSubK
  cases mo ρ h with
  | ok o h =>
    simp only [Res.bind_ok]; unfold gSubK2
    cases mi ρ h with
    | ok i h => simp only [Res.bind_ok]; unfold gSubK3; cases setF o i d h <;> rfl
    | _ => rfl
  | _ => rfl
def setFK2 (h : Hd) (r : Nat) (xs : List D) (v : D) : Option Nat → Option Hd
  | some j => some (h.set r (.lst (xs.set j v)))
  | none => none
def setFK (h : Hd) (r : Nat) (k : Int) (v : D) : Option Cell → Option Hd
  | some (.lst xs) => setFK2 h r xs v (ixN xs.length k)
  | _ => none
@[simp] theorem setFK2_some (r j : Nat) (xs : List D) (v : D) : setFK2 h r xs v (some j) = some (h.set r (.lst (xs.set j v))) := rfl
@[simp] theorem setFK_lst (r : Nat) (k : Int) (v : D) (xs : List D) : setFK h r k v (some (.lst xs)) = setFK2 h r xs v (ixN xs.length k) := rfl
@[simp] theorem setF_ref (r : Nat) (k : Int) (v : D) : setF (.ref r) (.int k) v h = setFK h r k v h[r]? := by
  rcases e : h[r]? with _ | c
  · simp only [setF, e, setFK]
  · cases c with
    | lst xs =>
      simp only [setF, e, setFK_lst]
      unfold setFK2; cases ixN xs.length k <;> rfl
    | _ => simp only [setF, e, setFK]
def runK : Fl → Res D
  | .nx _ h => .ok .non h
  | .rt d h => .ok d h
  | .exc x _ h => .exc x h
  | _ => .bad
@[simp] theorem runK_nx (ρ : Env) (h : Hd) : runK (.nx ρ h) = .ok .non h := rfl
@[simp] theorem runK_rt (d : D) (h : Hd) : runK (.rt d h) = .ok d h := rfl
@[simp] theorem runK_exc (x : Xc) (ρ : Env) (h : Hd) : runK (.exc x ρ h) = .exc x h := rfl
@[simp] theorem runB_k (n : Nat) (b : MS) (ds : List D) (h : Hd) : runB n b ds h = runK (b (startD n ds) h) := by unfold runB runK; cases b (startD n ds) h <;> rfl
@[simp] theorem startD_0 (n : Nat) : startD n [] = List.replicate n none := by simp [startD]
@[simp] theorem startD_1 (n : Nat) (a : D) : startD n [a] = some a :: List.replicate (n - 1) none := by simp [startD]
@[simp] theorem startD_2 (n : Nat) (a b : D) : startD n [a, b] = some a :: some b :: List.replicate (n - 2) none := by simp [startD]
@[simp] theorem startD_3 (n : Nat) (a b c : D) : startD n [a, b, c] = some a :: some b :: some c :: List.replicate (n - 3) none := by simp [startD]
@[simp] theorem addF_int (i j : Int) : addF (.int i) (.int j) h = .ok (.val (.int (i + j))) h := rfl
@[simp] theorem addF_str (a b : Str) : addF (.str a) (.str b) h = if a.length + b.length ≤ sizeLine then .ok (.val (.str (a ++ b))) h else .bad := rfl
@[simp] theorem addF_tup (a b : List D) : addF (.tup a) (.tup b) h = if a.length + b.length ≤ sizeLine then .ok (.val (.tup (a ++ b))) h else .bad := rfl
@[simp] theorem addF_lst (a b : List D) : addF (.lst a) (.lst b) h = if (a ++ b).length ≤ sizeLine then .ok (.new (.lst (a ++ b))) h else .bad := rfl
@[simp] theorem subF_int (i j : Int) : subF (.int i) (.int j) h = .ok (.val (.int (i - j))) h := rfl
@[simp] theorem mulF_int (i j : Int) : mulF (.int i) (.int j) h = if (-(2 ^ 64) < i ∧ i < 2 ^ 64) ∨ (-(2 ^ 64) < j ∧ j < 2 ^ 64) then .ok (.val (.int (i * j))) h else .bad := rfl
@[simp] theorem fdivF_int (i j : Int) : fdivF (.int i) (.int j) h = if 0 < j ∧ j < 1000000000000000000000000000000 then .ok (.val (.int (i / j))) h else .bad := rfl
@[simp] theorem modF_int (i j : Int) : modF (.int i) (.int j) h = if 0 < j then .ok (.val (.int (i % j))) h else .bad := rfl
@[simp] theorem powF_int (i j : Int) : powF (.int i) (.int j) h = if 0 ≤ j ∧ j ≤ 1000000 ∧ i.natAbs < 2 ^ 64 then .ok (.val (.int (i ^ j.toNat))) h else .bad := rfl
@[simp] theorem cLt_int (i j : Int) : cLt (.int i) (.int j) h = .ok (decide (i < j)) h := rfl
@[simp] theorem cLt_str (a b : Str) : cLt (.str a) (.str b) h = .ok (ltS a b) h := rfl
@[simp] theorem cLe_int (i j : Int) : cLe (.int i) (.int j) h = .ok (decide (i ≤ j)) h := rfl
@[simp] theorem cGt_int (i j : Int) : cGt (.int i) (.int j) h = .ok (decide (j < i)) h := rfl
@[simp] theorem cGe_int (i j : Int) : cGe (.int i) (.int j) h = .ok (decide (j ≤ i)) h := rfl
@[simp] theorem cIs_non (d : D) : cIs d .non h = .ok (isNon d) h := rfl
@[simp] theorem cIsNot_non (d : D) : cIsNot d .non h = .ok (!isNon d) h := rfl
end
section
variable {α : Type} {h : Hd} {ρ : Env}
theorem atI_at {xs : List α} {i : Int} {j : Nat} {a : α} (e : i = (j : Int)) (h : xs[j]? = some a) : atI xs i = some a := e ▸ atI_nat h
def itK : Res D → Res Src
  | .ok d h => optR (srcOf h d) h
  | .exc x h => .exc x h
  | .bad => .bad
@[simp] theorem itK_ok (d : D) (h : Hd) : itK (.ok d h) = optR (srcOf h d) h := rfl
@[simp] theorem mIter_k (m : ME) (ρ : Env) (h : Hd) : mIter m ρ h = itK (m ρ h) := by unfold mIter itK; cases m ρ h <;> rfl
def srcK (f : Hd → List D → Option Src) : Res (List D) → Res Src
  | .ok ds h => optR (f h ds) h
  | .exc x h => .exc x h
  | .bad => .bad
@[simp] theorem srcK_ok (f : Hd → List D → Option Src) (ds : List D) (h : Hd) : srcK f (.ok ds h) = optR (f h ds) h := rfl
@[simp] theorem mSrc_k (f : Hd → List D → Option Src) (m : MA) (ρ : Env) (h : Hd) : mSrc f m ρ h = srcK f (m ρ h) := by unfold mSrc srcK; cases m ρ h <;> rfl
@[simp] theorem srcOf_tup (xs : List D) : srcOf h (.tup xs) = some ⟨xs, fun _ => True⟩ := rfl
@[simp] theorem srcOf_lst (xs : List D) : srcOf h (.lst xs) = some ⟨xs, fun _ => True⟩ := rfl
@[simp] theorem srcOf_rol (xs : List D) : srcOf h (.rol xs) = some ⟨xs, fun _ => True⟩ := rfl
@[simp] theorem srcOf_str (s : Str) : srcOf h (.str s) = some ⟨signs s, fun _ => True⟩ := rfl
@[simp] theorem rangeD_len (lo : Int) (n : Nat) : (rangeD lo n).length = n := by simp [rangeD]
def lcK2 : Res (List D) → Res O
  | .ok ds h => .ok (.new (.lst ds)) h
  | .exc x h => .exc x h
  | .bad => .bad
@[simp] theorem lcK2_ok (ds : List D) (h : Hd) : lcK2 (.ok ds h) = .ok (.new (.lst ds)) h := rfl
noncomputable def lcK (vs : List Nat) (g : MG) (t : MT) (e : ME) (ρ : Env) : Res Src → Res O
  | .ok s h => lcK2 (lcGo s.chk g t e (wipeD ρ vs) s.items [] h)
  | .exc x h => .exc x h
  | .bad => .bad
@[simp] theorem lcK_ok (vs : List Nat) (g : MG) (t : MT) (e : ME) (ρ : Env) (s : Src) (h : Hd) : lcK vs g t e ρ (.ok s h) = lcK2 (lcGo s.chk g t e (wipeD ρ vs) s.items [] h) := rfl
@[simp] theorem mLc_k (vs : List Nat) (mi : MI) (g : MG) (t : MT) (e : ME) (ρ : Env) (h : Hd) : mLc vs mi g t e ρ h = lcK vs g t e ρ (mi ρ h) := by
  unfold mLc lcK
  cases mi ρ h with
  | ok s h => simp only [Res.bind_ok]; unfold lcK2; cases lcGo s.chk g t e (wipeD ρ vs) s.items [] h <;> rfl
  | _ => rfl
@[simp] theorem tYes_k (ρ : Env) (h : Hd) : tYesM ρ h = .ok true h := rfl
@[simp] theorem wipeD_nil (ρ : Env) : wipeD ρ [] = ρ := rfl
@[simp] theorem wipeD_cons (ρ : Env) (v : Nat) (vs : List Nat) : wipeD ρ (v :: vs) = (wipeD ρ vs).set v none := rfl
theorem noX_ok {α : Type} {m : Env → Hd → Res α} {ρ : Env} {h h' : Hd} {a : α} (e : m ρ h = .ok a h') : noX m ρ h = .ok a h' := by unfold noX; rw [e]
/-- a comprehension that changes nothing -/
theorem lcGo_pure {chk : Hd → Prop} {g : MG} {t : MT} {e : ME} {ρ : Env} {h : Hd} (f : D → D) (hc : chk h) : ∀ (ds acc : List D),
    (∀ d ∈ ds, ∃ ρ1, g d ρ h = .ok ρ1 h ∧ t ρ1 h = .ok true h ∧ e ρ1 h = .ok (f d) h) → acc.length + ds.length ≤ sizeLine →
    lcGo chk g t e ρ ds acc h = .ok (acc ++ ds.map f) h
  | [], acc, _, _ => by unfold lcGo; rw [if_pos hc]; simp
  | d :: ds, acc, he, hz => by
    obtain ⟨ρ1, a1, a2, a3⟩ := he d (by simp)
    have hz' : acc.length + ds.length + 1 ≤ sizeLine := by simpa [Nat.add_assoc] using hz
    unfold lcGo
    rw [if_pos hc, noX_ok a1]
    simp only [Res.bind_ok]
    rw [noX_ok a2]
    simp only [Res.bind_ok, if_true]
    rw [noX_ok a3]
    simp only [Res.bind_ok]
    rw [if_pos (by omega), lcGo_pure f hc ds (acc ++ [f d]) (fun d m => he d (List.mem_cons_of_mem _ m)) (by simp; omega)]
    simp
/-- a for statement under an invariant -/
theorem forGo_inv {chk : Hd → Prop} {g : MG} {b : MS} (I : Env → Hd → Prop) (hc : ∀ ρ h, I ρ h → chk h) : ∀ (ds : List D) (ρ : Env) (h : Hd),
    (∀ d ∈ ds, ∀ ρ h, I ρ h → ∃ ρ1 ρ2 h', g d ρ h = .ok ρ1 h ∧ b ρ1 h = .nx ρ2 h' ∧ I ρ2 h') → I ρ h → ∃ ρ' h', forGo chk g b ds ρ h = .nx ρ' h' ∧ I ρ' h'
  | [], ρ, h, _, i => ⟨ρ, h, by unfold forGo; rw [if_pos (hc ρ h i)], i⟩
  | d :: ds, ρ, h, hb, i => by
    obtain ⟨ρ1, ρ2, h1, a1, a2, i1⟩ := hb d (by simp) ρ h i
    obtain ⟨ρ3, h3, b1, b2⟩ := forGo_inv I hc ds ρ2 h1 (fun d m => hb d (List.mem_cons_of_mem _ m)) i1
    refine ⟨ρ3, h3, ?_, b2⟩
    unfold forGo
    rw [if_pos (hc ρ h i)]
    simp only [a1, a2, afterB]
    exact b1
noncomputable def forK (g : MG) (b : MS) (ρ : Env) : Res Src → Fl
  | .ok s h => forGo s.chk g b s.items ρ h
  | .exc x h => .exc x ρ h
  | .bad => .bad
@[simp] theorem forK_ok (g : MG) (b : MS) (s : Src) (h : Hd) : forK g b ρ (.ok s h) = forGo s.chk g b s.items ρ h := rfl
@[simp] theorem mFor_k (mi : MI) (g : MG) (b : MS) (ρ : Env) (h : Hd) : mFor mi g b ρ h = forK g b ρ (mi ρ h) := by unfold mFor liftR forK; cases mi ρ h <;> rfl
end
section
variable {h : Hd}
@[simp] theorem valR_some (d : D) (h : Hd) : valR (some d) h = .ok (.val d) h := rfl
@[simp] theorem lenF_lst (xs : List D) : lenF [.lst xs] h = .ok (.val (.int xs.length)) h := rfl
@[simp] theorem lenF_tup (xs : List D) : lenF [.tup xs] h = .ok (.val (.int xs.length)) h := rfl
@[simp] theorem lenF_rol (xs : List D) : lenF [.rol xs] h = .ok (.val (.int xs.length)) h := rfl
@[simp] theorem lenF_str (s : Str) : lenF [.str s] h = if s.length ≤ sizeLine then .ok (.val (.int s.length)) h else .bad := rfl
theorem toBs_map {α : Type} (f : α → Bool) : ∀ xs : List α, toBs (xs.map fun x => D.bl (f x)) = some (xs.map f)
  | [] => rfl
  | x :: xs => by simp [toBs, toBs_map f xs]
theorem allF_map {α : Type} (f : α → Bool) (xs : List α) : allF [.lst (xs.map fun x => D.bl (f x))] h = .ok (.val (.bl (xs.all f))) h := by
  simp [allF, lstOf, toBs_map, valR, List.all_map, Function.comp_def]
theorem keysS_map : ∀ xs : List Str, keysS (xs.map .str) = some xs
  | [] => rfl
  | x :: xs => by simp [keysS, keysS_map xs]
@[simp] theorem cEq_int (i j : Int) : cEq (.int i) (.int j) h = .ok (decide (i = j)) h := by
  show optR (some (decide (V.int i = V.int j))) h = _
  simp
@[simp] theorem cEq_bl (i j : Bool) : cEq (.bl i) (.bl j) h = .ok (i == j) h := by
  show optR (some (decide (V.bl i = V.bl j))) h = _
  cases i <;> cases j <;> rfl
@[simp] theorem cNe_bl (i j : Bool) : cNe (.bl i) (.bl j) h = .ok (i != j) h := by
  show optR (some (!decide (V.bl i = V.bl j))) h = _
  cases i <;> cases j <;> rfl
@[simp] theorem cIn_str (a b : Str) : cIn (.str a) (.str b) h = .ok (inT a b) h := rfl
@[simp] theorem joinK (a : Str) (ss : List Str) : joinF a (.lst (ss.map .str)) h = if (ss.map (·.length)).sum + ss.length * a.length ≤ 16777216 then .ok (.val (.str (Txt.join a ss))) h else .bad := by
  simp [joinF, lstOf, keysS_map]
def joinK2 (a : Str) : Res D → Res O
  | .ok y h => joinF a y h
  | .exc x h => .exc x h
  | .bad => .bad
@[simp] theorem joinK2_ok (a : Str) (y : D) (h : Hd) : joinK2 a (.ok y h) = joinF a y h := rfl
def joinK1 (mb : ME) (ρ : Env) : Res D → Res O
  | .ok (.str a) h => joinK2 a (mb ρ h)
  | .exc x h => .exc x h
  | _ => .bad
@[simp] theorem joinK1_ok (mb : ME) (ρ : Env) (a : Str) (h : Hd) : joinK1 mb ρ (.ok (.str a) h) = joinK2 a (mb ρ h) := rfl
@[simp] theorem mJoin_k (ma mb : ME) (ρ : Env) (h : Hd) : mJoin ma mb ρ h = joinK1 mb ρ (ma ρ h) := by
  unfold mJoin joinK1
  cases ma ρ h with
  | ok d h =>
    cases d with
    | str a => show (mb ρ h).bind (fun y h => joinF a y h) = joinK2 a (mb ρ h); unfold joinK2; cases mb ρ h <;> rfl
    | _ => rfl
  | _ => rfl
def ssK : Res D → Res O
  | .ok d h => ssF d h
  | .exc x h => .exc x h
  | .bad => .bad
@[simp] theorem ssK_ok (d : D) (h : Hd) : ssK (.ok d h) = ssF d h := rfl
@[simp] theorem mSS_k (m : ME) (ρ : Env) (h : Hd) : mSS m ρ h = ssK (m ρ h) := by unfold mSS ssK; cases m ρ h <;> rfl
def negK : Res D → Res D
  | .ok (.int i) h => .ok (.int (-i)) h
  | .exc x h => .exc x h
  | _ => .bad
@[simp] theorem negK_ok (i : Int) (h : Hd) : negK (.ok (.int i) h) = .ok (.int (-i)) h := rfl
@[simp] theorem mNeg_k (m : ME) (ρ : Env) (h : Hd) : mNeg m ρ h = negK (m ρ h) := by
  unfold mNeg negK
  cases m ρ h with
  | ok d h => cases d <;> rfl
  | _ => rfl
@[simp] theorem mDict0_k (ρ : Env) (h : Hd) : mDict0 ρ h = .ok (.new (.dct [] [])) h := rfl
def sOk (s : Str) : Prop := PyData.strOk s = true
theorem isPys_strs : ∀ xs : List Str, isPys (xs.map .str) = true
  | [] => rfl
  | x :: xs => by simp [isPys, isPy, isPys_strs xs]
theorem pyDs_strs : ∀ xs : List Str, pyDs (xs.map .str) = xs.map .str
  | [] => rfl
  | x :: xs => by simp [pyDs, pyD, pyDs_strs xs]
theorem lay_strs : ∀ xs : List Str, (∀ s ∈ xs, sOk s) → PyData.canLayAll0 (xs.map .str) = true
  | [], _ => rfl
  | x :: xs, p => by
    have hx : PyData.strOk x = true := p x (by simp)
    simp [PyData.canLayAll0, PyData.canLay0, hx, lay_strs xs fun s m => p s (by simp [m])]
theorem depth_strs : ∀ xs : List Str, PyData.depthAll (xs.map .str) = 0
  | [] => rfl
  | x :: xs => by simp [PyData.depthAll, PyData.depth, depth_strs xs]
theorem eqv_strs : ∀ xs ys : List Str, PyData.eqvAll (xs.map .str) (ys.map .str) = decide (xs = ys)
  | [], [] => rfl
  | [], _ :: _ => rfl
  | _ :: _, [] => rfl
  | x :: xs, y :: ys => by
    simp only [List.map_cons, PyData.eqvAll, PyData.eqv, eqv_strs xs ys]
    by_cases a : x = y <;> by_cases b : xs = ys <;> simp [a, b]
theorem cEq_lists {d e : D} {xs ys : List Str} (hd : pyO h d = some (.list (xs.map .str))) (he : pyO h e = some (.list (ys.map .str))) (nd : scalV d = none) (ox : ∀ s ∈ xs, sOk s) (oy : ∀ s ∈ ys, sOk s) : eqF h d e = some (decide (xs = ys)) := by
  unfold eqF
  rw [nd]
  simp only [eqF.deepE, hd, he, Option.bind_some, PyData.canLay0, lay_strs xs ox, lay_strs ys oy, PyData.depth, depth_strs, PyData.eqv, eqv_strs]
  rfl
theorem pyO_lst (xs : List Str) : pyO h (.lst (xs.map .str)) = some (.list (xs.map .str)) := by
  simp [pyO, isPy, isPys_strs, pyD, pyDs_strs]
theorem pyO_ref {r : Nat} {xs : List Str} (e : h[r]? = some (.lst (xs.map .str))) : pyO h (.ref r) = some (.list (xs.map .str)) := by
  simp [pyO, e, isPys_strs, pyDs_strs]
end
@[simp] theorem app_len (a b : Str) : (a ++ b).length = a.length + b.length := by show (a.cps ++ b.cps).size = _; simp [Str.length]
@[simp] theorem listF_str {h : Hd} (s : Str) : listF [.str s] h = if s.length ≤ sizeLine then .ok (.new (.lst (signs s))) h else .bad := rfl
@[simp] theorem listF_lst {h : Hd} (xs : List D) : listF [.lst xs] h = .ok (.new (.lst xs)) h := rfl
@[simp] theorem listF_tup {h : Hd} (xs : List D) : listF [.tup xs] h = .ok (.new (.lst xs)) h := rfl
@[simp] theorem listF_rol {h : Hd} (xs : List D) : listF [.rol xs] h = .ok (.new (.lst xs)) h := rfl
@[simp] theorem tupleF_tup {h : Hd} (xs : List D) : tupleF [.tup xs] h = .ok (.val (.tup xs)) h := rfl
@[simp] theorem tupleF_lst {h : Hd} (xs : List D) : tupleF [.lst xs] h = .ok (.val (.tup xs)) h := rfl
@[simp] theorem zipF_lst {h : Hd} (xs ys : List D) : zipF h [.lst xs, .lst ys] = some ⟨zipD xs ys, fun h => lstOf h (.lst xs) = some xs ∧ lstOf h (.lst ys) = some ys⟩ := rfl
def dctOf (h : Hd) : D → Option (List D × List D)
  | .dct ks us => some (ks, us)
  | .ref r => match h[r]? with
    | some (.dct ks us) => some (ks, us)
    | some (.lkd ks us) => some (ks, us)
    | _ => none
  | _ => none
theorem dctOf_ok {c : Ct} {w : Wd} {h : Hd} {H : Hp} {d : D} {v : V} {ks us : List D} (s : SR c w h H) (r : VR c w d v) (e : dctOf h d = some (ks, us)) :
    ∃ (a : Addr) (kvs : List (Key × V)), v = .ref a ∧ Rd H a (.dK kvs) ∧ ks.map keyD = kvs.map (fun p => some p.1) ∧ VRs c w us (kvs.map (·.2)) := by
  cases d with
  | dct ks' us' =>
    simp only [dctOf, Option.some.injEq, Prod.mk.injEq] at e
    obtain ⟨rfl, rfl⟩ := e
    simp only [VR] at r
    obtain ⟨a, od, kvs, rfl, q, k, z⟩ := r
    exact ⟨a, kvs, rfl, .inr ⟨od, s.F _ _ q⟩, k, z⟩
  | ref n =>
    simp only [dctOf] at e
    split at e
    · rename_i ks' us' ex
      simp only [Option.some.injEq, Prod.mk.injEq] at e
      obtain ⟨rfl, rfl⟩ := e
      simp only [VR] at r
      obtain ⟨a, rfl, f⟩ := r
      obtain ⟨b, q1, _, _, q4⟩ := s.cell n _ ex (by intro z; cases z)
      rw [f] at q1; cases q1
      obtain ⟨kvs, q, k, z⟩ := q4
      exact ⟨a, kvs, rfl, .inl q, k, z⟩
    · rename_i ks' us' ex
      simp only [Option.some.injEq, Prod.mk.injEq] at e
      obtain ⟨rfl, rfl⟩ := e
      simp only [VR] at r
      obtain ⟨a, rfl, f⟩ := r
      obtain ⟨b, q1, _, _, q4⟩ := s.cell n _ ex (by intro z; cases z)
      rw [f] at q1; cases q1
      obtain ⟨od, kvs, q, k, z⟩ := q4
      exact ⟨a, kvs, rfl, .inr ⟨od, q⟩, k, z⟩
    · cases e
  | _ => simp [dctOf] at e
/-- dicts whose keys are tuples -/
def dttOf (h : Hd) : D → Option (List D × List D)
  | .dtt ks us => some (ks, us)
  | .ref r => match h[r]? with
    | some (.dtt ks us) => some (ks, us)
    | some (.lkt ks us) => some (ks, us)
    | _ => none
  | _ => none
theorem dttOf_ok {c : Ct} {w : Wd} {h : Hd} {H : Hp} {d : D} {v : V} {ks us : List D} (s : SR c w h H) (r : VR c w d v) (e : dttOf h d = some (ks, us)) :
    ∃ (a : Addr) (kvs : List (List Key × V)), v = .ref a ∧ Rd H a (.dT kvs) ∧ ks.map tkeyD = kvs.map (fun p => some p.1) ∧ VRs c w us (kvs.map (·.2)) := by
  cases d with
  | dtt ks' us' =>
    simp only [dttOf, Option.some.injEq, Prod.mk.injEq] at e
    obtain ⟨rfl, rfl⟩ := e
    simp only [VR] at r
    obtain ⟨a, od, kvs, rfl, q, k, z⟩ := r
    exact ⟨a, kvs, rfl, .inr ⟨od, s.F _ _ q⟩, k, z⟩
  | ref n =>
    simp only [dttOf] at e
    split at e
    · rename_i ks' us' ex
      simp only [Option.some.injEq, Prod.mk.injEq] at e
      obtain ⟨rfl, rfl⟩ := e
      simp only [VR] at r
      obtain ⟨a, rfl, f⟩ := r
      obtain ⟨b, q1, _, _, q4⟩ := s.cell n _ ex (by intro z; cases z)
      rw [f] at q1; cases q1
      obtain ⟨kvs, q, k, z⟩ := q4
      exact ⟨a, kvs, rfl, .inl q, k, z⟩
    · rename_i ks' us' ex
      simp only [Option.some.injEq, Prod.mk.injEq] at e
      obtain ⟨rfl, rfl⟩ := e
      simp only [VR] at r
      obtain ⟨a, rfl, f⟩ := r
      obtain ⟨b, q1, _, _, q4⟩ := s.cell n _ ex (by intro z; cases z)
      rw [f] at q1; cases q1
      obtain ⟨od, kvs, q, k, z⟩ := q4
      exact ⟨a, kvs, rfl, .inr ⟨od, q⟩, k, z⟩
    · cases e
  | _ => simp [dttOf] at e
theorem keysD_map : ∀ {ds : List D} {kk : List Key}, keysD ds = some kk → ds.map keyD = kk.map some
  | [], kk, e => by simp [keysD] at e; subst e; rfl
  | d :: ds, kk, e => by
    unfold keysD at e
    split at e
    · rename_i k l e1 e2
      cases e
      simp [e1, keysD_map e2]
    · cases e
/-- the value at a key, by a reading of keys -/
def valG {κ : Type} [DecidableEq κ] (f : D → Option κ) : List D → List D → κ → Option D
  | k' :: ks, u :: us, k => if f k' = some k then some u else valG f ks us k
  | _, _, _ => none
abbrev valD : List D → List D → Key → Option D := valG keyD
abbrev valT : List D → List D → List Key → Option D := valG tkeyD
theorem valG_ok {κ : Type} [DecidableEq κ] {f : D → Option κ} {c : Ct} {w : Wd} {k : κ} : ∀ {ks us : List D} {kvs : List (κ × V)}, ks.map f = kvs.map (fun p => some p.1) → VRs c w us (kvs.map (·.2)) →
    (∀ d, valG f ks us k = some d → ∃ v, valV kvs k = some v ∧ VR c w d v) ∧ (valG f ks us k = none → valV kvs k = none)
  | [], us, [], _, r => ⟨fun d e => by simp [valG] at e, fun _ => rfl⟩
  | [], _, _ :: _, e, _ => by simp at e
  | _ :: _, _, [], e, _ => by simp at e
  | k' :: ks, [], p :: kvs, e, r => by simp only [VRs] at r; simp at r
  | k' :: ks, u :: us, p :: kvs, e, r => by
    simp only [List.map_cons, List.cons.injEq] at e
    simp only [VRs, List.map_cons, List.cons.injEq] at r
    obtain ⟨v, r2, ⟨rfl, rfl⟩, rv, rr⟩ := r
    have ih := valG_ok (k := k) e.2 rr
    unfold valG
    by_cases h : p.1 = k
    · rw [if_pos (by rw [e.1, h])]
      exact ⟨fun d ed => by cases ed; exact ⟨p.2, valV_pos h, rv⟩, fun z => by cases z⟩
    · rw [if_neg (by rw [e.1]; intro z; exact h (Option.some.inj z)), valV_neg h]
      exact ih
theorem keysD_vals {c : Ct} {w : Wd} : ∀ {ds : List D} {vs : List V} {kk : List Key}, VRs c w ds vs → keysD ds = some kk → vs = kk.map kV
  | [], vs, kk, r, e => by simp only [VRs] at r; simp [keysD] at e; subst e; exact r
  | d :: ds, vs, kk, r, e => by
    unfold keysD at e
    split at e
    · rename_i k l e1 e2
      cases e
      simp only [VRs] at r
      obtain ⟨v, us, rfl, r1, r2⟩ := r
      have kv : v = kV k := by cases d <;> simp [keyD] at e1 <;> (subst e1; simp only [VR] at r1; exact r1)
      rw [kv, keysD_vals r2 e2]
      rfl
    · cases e
theorem tkey_val {c : Ct} {w : Wd} {d : D} {v : V} {k : List Key} (r : VR c w d v) (e : tkeyD d = some k) : ∃ b, v = .ref b ∧ w.F b = some (.tup (k.map kV)) := by
  cases d with
  | tup xs =>
    simp only [VR] at r
    obtain ⟨a, vs, rfl, q, z⟩ := r
    have e' : keysD xs = some k := e
    have := keysD_vals z e'
    subst this
    exact ⟨a, rfl, q⟩
  | _ => cases e
theorem key_val {c : Ct} {w : Wd} {d : D} {v : V} {k : Key} (r : VR c w d v) (e : keyD d = some k) : v = kV k := by
  cases d <;> simp [keyD] at e <;> (subst e; simp only [VR] at r; exact r)
def dgetF (h : Hd) (x y : D) : Option (Option D) := match dctOf h x, keyD y with
  | some (ks, us), some k => some (valD ks us k)
  | _, _ => match dttOf h x, tkeyD y with
    | some (ks, us), some k => some (valT ks us k)
    | _, _ => none
theorem dgetF_ok {c : Ct} {w : Wd} {h : Hd} {H : Hp} {x y : D} {v u : V} {o : Option D} (s : SR c w h H) (rx : VR c w x v) (ry : VR c w y u) (e : dgetF h x y = some o) :
    ∃ (a : Addr) (o' : Option V), v = .ref a ∧ DGet H a u o' ∧ (∀ d, o = some d → ∃ z, o' = some z ∧ VR c w d z) ∧ (o = none → o' = none) := by
  unfold dgetF at e
  split at e
  · rename_i ks us k e1 e2
    cases e
    obtain ⟨a, kvs, rfl, q, kk, z⟩ := dctOf_ok s rx e1
    have := valG_ok (k := k) kk z
    refine ⟨a, valV kvs k, rfl, ?_, this.1, this.2⟩
    rw [key_val ry e2]
    exact .inl ⟨kvs, k, q, rfl, rfl⟩
  · split at e
    · rename_i ks us k e1 e2
      cases e
      obtain ⟨a, kvs, rfl, q, kk, z⟩ := dttOf_ok s rx e1
      have := valG_ok (k := k) kk z
      obtain ⟨b, rfl, eb⟩ := tkey_val ry e2
      exact ⟨a, valV kvs k, rfl, .inr ⟨kvs, k, b, q, rfl, s.F _ _ eb, rfl⟩, this.1, this.2⟩
    · cases e
def isDct (h : Hd) (x : D) : Bool := (dctOf h x).isSome || (dttOf h x).isSome
def mGet1 (ma mk : ME) : ME := fun ρ h => (ma ρ h).bind fun x h => if isDct h x then (mk ρ h).bind fun y h => optR ((dgetF h x y).map (·.getD .non)) h else .bad
def mGet2 (ma mk mx : ME) : ME := fun ρ h => (ma ρ h).bind fun x h => if isDct h x then (mk ρ h).bind fun y h => (mx ρ h).bind fun z h => optR ((dgetF h x y).map (·.getD z)) h else .bad
def mDIx (ma mk : ME) : ME := fun ρ h => (ma ρ h).bind fun x h => (mk ρ h).bind fun y h => optR ((dgetF h x y).bind id) h
theorem hu1 {k : Nat} {A : Around} (hr : Room k A) : A.units + 1 < cLine := by have := hu64 hr; omega
section
variable {X : Cx} {W : WX} {o e f : Expr} {ma mk mx mv : ME} {pos apos cpos pos' : Pos} {k : Nat}
theorem e_dix (hr : Room k X.A) (ha : SE X W o ma) (hk : SE X W e mk) (hs : NoSl e := by intro _ _; rfl) : SE X W (.Subscript o e pos) (mDIx ma mk) := PE.imp (pe_dget (hu1 hr) ha hk hs) fun σ H Q q => by
  refine (tP.bind (k := fun ρ x h => (mk ρ h).bind fun y h => optR ((dgetF h x y).bind id) h) q).mono fun v H1 ⟨w1, ρ, h1, d, e1, s1, r1, p1⟩ => ?_
  refine ⟨w1, ρ, h1, e1, s1, (Post.bind p1).mono fun y H2 ⟨w2, h2, dy, l2, ry, s2, p2⟩ => ?_⟩
  obtain ⟨b, eb, p3⟩ := optR_post p2
  rw [Option.bind_eq_some_iff] at eb
  obtain ⟨ov, eo, ei⟩ := eb
  have ei' : ov = some b := ei
  subst ei'
  obtain ⟨a', o', ea, g, g1, g2⟩ := dgetF_ok s2 (r1.le l2) ry eo
  obtain ⟨z', ez, rz⟩ := g1 b rfl
  subst ez
  exact ⟨a', z', ea, g, p3.ret rz s2⟩
end
theorem Post.pinned {α β : Type} {R : Wd → Hp → α → β → Prop} {c : Ct} {w : Wd} {W : WX} {σ : L2.St} {r : Res α} {Q : β → Hp → Prop} {a : Addr} {o : HO} (hR : ∀ w w' H x y, Le0 w w' → R w H x y → R w' H x y) (n : w.P a = none) (nf : isFz o = false)
    (p : Post R c w W σ r fun v H2 => Q v H2) : Post R c (w.pinAt a o) W σ r fun v H2 => H2 a = some o ∧ Q v H2 := by
  cases r with
  | ok x h =>
    intro v w2 H2 l rx s2
    have eP : w2.P = upd w.P a o := l.P
    obtain ⟨s3, f3, e3⟩ := s2.unpin eP n nf
    exact ⟨e3, p v { w2 with P := w.P } H2 ⟨⟨l.F, l.φ⟩, rfl⟩ (hR w2 _ _ _ _ ⟨fun _ _ e => e, fun _ _ e => e⟩ rx) s3⟩
  | exc x h =>
    intro cls dx w2 H2 l s2 rx
    have eP : w2.P = upd w.P a o := l.P
    obtain ⟨s3, f3, e3⟩ := s2.unpin eP n nf
    refine p cls dx { w2 with P := w.P } H2 ⟨⟨l.F, l.φ⟩, rfl⟩ s3 ?_
    obtain ⟨C, x1, x2, x3⟩ := rx
    exact ⟨C, x1, x2, x3.imp id fun ⟨n, d, fs, y1, y2, y3, y4⟩ => ⟨n, d, fs, y1, y2, y3, y4.le0 (Le0.P w2 _)⟩⟩
  | bad => exact p
abbrev MP := Env → Hd → Res (List (D × D))
def pNil : MP := fun _ h => .ok [] h
def pCons (mk mv : ME) (r : MP) : MP := fun ρ h => (mk ρ h).bind fun k h => (mv ρ h).bind fun v h => (r ρ h).bind fun ps h => .ok ((k, v) :: ps) h
def RP (c : Ct) : Wd → Hp → List (D × D) → List (V × V) → Prop := fun w _ ps vs => VRs c w (ps.map (·.1)) (vs.map (·.1)) ∧ VRs c w (ps.map (·.2)) (vs.map (·.2))
def SP (X : Cx) (W : WX) (pos : Pos) (keys : List (Option Expr)) (values : List Expr) (m : MP) : Prop := ∃ trs, PPs X pos keys values trs ∧ ∀ σ H Q, tP (RP (Cx.ct X)) (Cx.ct X) W m σ H Q → tPairs trs σ H Q
section
variable {X : Cx} {W : WX} {pos : Pos} {k v : Expr} {ks : List (Option Expr)} {vs : List Expr} {mk mv : ME} {mp : MP}
theorem sp_nil : SP X W pos [] [] pNil := ⟨[], pps_nil, fun σ H Q ⟨w, ρ, h, e, s, p⟩ => p.ret ⟨.nil, .nil⟩ s⟩
theorem sp_cons (hk : SE X W k mk) (hv : SE X W v mv) (hr : SP X W pos ks vs mp) : SP X W pos (some k :: ks) (v :: vs) (pCons mk mv mp) := by
  obtain ⟨trs, hp, ht⟩ := hr
  refine ⟨(tE (Cx.ct X) W mk, tE (Cx.ct X) W mv) :: trs, pps_cons hk hv hp, fun σ H Q q => ?_⟩
  refine (tP.bind (k := fun ρ k h => (mv ρ h).bind fun v h => (mp ρ h).bind fun ps h => .ok ((k, v) :: ps) h) q).mono fun x H1 ⟨w1, ρ, h1, d, e1, s1, r1, p1⟩ => ?_
  refine ⟨w1, ρ, h1, e1, s1, (Post.bind p1).mono fun y H2 ⟨w2, h2, dy, l2, ry, s2, p2⟩ => ?_⟩
  refine ht _ _ _ ⟨w2, ρ, h2, e1.le l2, s2, (Post.bind p2).mono fun ps H3 ⟨w3, h3, dp, l3, rp, s3, p3⟩ => ?_⟩
  exact p3.ret ⟨.cons (r1.le (l2.trans l3)) rp.1, .cons (ry.le l3) rp.2⟩ s3
def dispF (ps : List (D × D)) (h : Hd) : Res O := match keysD (ps.map (·.1)) with
  | some kk => if kk.Nodup ∧ kk.length ≤ 15 then .ok (.new (.dct (ps.map (·.1)) (ps.map (·.2)))) h else .bad
  | none => .bad
def mDisp (mp : MP) : Env → Hd → Res O := fun ρ h => (mp ρ h).bind dispF
theorem mergeK_new : ∀ (more acc : List (Key × V)), ((acc ++ more).map (·.1)).Nodup → mergeK acc more = acc ++ more
  | [], acc, _ => by simp [mergeK]
  | p :: r, acc, h => by
    have hp : (acc.any fun kv => decide (kv.1 = p.1)) = false := by
      rw [List.any_eq_false]
      intro q m
      simp only [decide_eq_true_eq]
      intro e
      rw [List.map_append, List.nodup_append] at h
      exact h.2.2 q.1 (List.mem_map.mpr ⟨q, m, rfl⟩) p.1 (by simp) e
    have e : putK acc p.1 p.2 = acc ++ [p] := by unfold putK; rw [hp]; rfl
    show mergeK (putK acc p.1 p.2) r = _
    rw [e, mergeK_new r (acc ++ [p]) (by simpa using h)]
    simp
theorem e_disp (hp : SP X W pos ks vs mp) (hall : ks.all (·.isSome) = true := by rfl) (hl : ks.length = vs.length := by rfl) (h0 : ks ≠ [] := by intro z; cases z) (h15 : ks.length ≤ 15 := by decide) : SO X W (.Dict ks vs pos) (mDisp mp) := by
  obtain ⟨trs, pp, ht⟩ := hp
  refine PE.imp (pe_disp pp hall hl h0 h15) fun σ H Q ⟨w, ρ, h, e, s, q⟩ p hn => ?_
  have f0 := FreshAt.of s hn
  have sD : SR (Cx.ct X) (w.pinAt p (.dK [])) h (upd H p (.dK [])) := (s.laid hn _).pinned f0 upd_same (pin_dK _)
  have lp : Le0 w (w.pinAt p (.dK [])) := Le0.P w _
  refine ht _ _ _ ⟨w.pinAt p (.dK []), ρ, h, e.le0 lp, sD, ?_⟩
  have q0 : Post (RO (Cx.ct X)) (Cx.ct X) w W σ ((mp ρ h).bind dispF) Q := q
  have q1 : Post (RP (Cx.ct X)) (Cx.ct X) w W σ (mp ρ h) _ := Post.bind q0
  cases r : mp ρ h with
  | ok ps h2 =>
    rw [r] at q0
    have q2 : Post (RO (Cx.ct X)) (Cx.ct X) w W σ (dispF ps h2) Q := q0
    intro ws w2 H2 l rx s2
    have eP : w2.P = upd w.P p (.dK []) := l.P
    obtain ⟨s3, f3, e3⟩ := s2.unpin eP f0.P
    have l3 : Le w { w2 with P := w.P } := ⟨⟨l.F, l.φ⟩, rfl⟩
    have q3 := Post.le l3 q2
    unfold dispF at q3
    split at q3
    · rename_i kk ek
      split at q3
      · rename_i hk
        have ew := keysD_vals rx.1 ek
        have hlen : kk.length = (ws.map (·.2)).length := by
          have := congrArg List.length ew
          simpa using this.symm
        have ews : ws = (kk.zip (ws.map (·.2))).map fun kv => (kV kv.1, kv.2) := by
          have h1 : ws = (ws.map (·.1)).zip (ws.map (·.2)) := by
            rw [List.zip_map']
            simp
          rw [h1, ew, List.map_snd_zip (by simp [hlen])]
          rw [show (fun kv : Key × V => (kV kv.1, kv.2)) = Prod.map kV id from rfl, ← List.zip_map, List.map_id]
        have hm1 : (kk.zip (ws.map (·.2))).map (·.1) = kk := List.map_fst_zip (by omega)
        have hm2 : (kk.zip (ws.map (·.2))).map (·.2) = ws.map (·.2) := List.map_snd_zip (by omega)
        refine ⟨e3, kk.zip (ws.map (·.2)), ews, by rw [List.length_zip]; omega, ?_⟩
        rw [mergeK_new _ [] (by rw [List.nil_append, hm1]; exact hk.1), List.nil_append]
        refine q3 _ _ _ (.refl _) ⟨(by intro z; cases z), p, rfl, f3, ⟨_, upd_same, ?_, ?_⟩⟩ (s3.over f3 (fun ps z => by rw [e3] at z; cases z) _)
        · rw [keysD_map ek]
          conv => lhs; rw [← hm1]
          rw [List.map_map]; rfl
        · rw [hm2]; exact rx.2.le0 (Le0.P w2 _)
      · exact q3.elim
    · exact q3.elim
  | exc x h2 =>
    have := Post.pinned (a := p) (o := .dK []) (R := RP (Cx.ct X)) (fun w w' H x y l r => ⟨r.1.le0 l, r.2.le0 l⟩) f0.P rfl q1
    rw [r] at this
    exact this
  | bad => rw [r] at q1; exact q1
end
end DD
namespace L2
open PySem PySem.Spec
/-- d.update(other), both with flat keys -/
def rUpd : V → List V → Hp → VK → Prop := fun x xs H Q => ∃ (a b : Addr) (kvs more : List (Key × V)), x = .ref a ∧ xs = [.ref b] ∧ a ≠ b ∧ H a = some (.dK kvs) ∧ Rd H b (.dK more) ∧ kvs.length + more.length ≤ sizeLine ∧ Q .non (upd H a (.dK (mergeK kvs more)))
theorem mtd_update {X : Cx} : MtR X "dict.update" rUpd := by
  intro pins s σ H x xs v us Q I rx rxs h
  obtain ⟨a, b, kvs, more, rfl, rfl, hab, ha, hb, hz, q⟩ := h
  obtain ⟨u, rfl, ru⟩ := rxs.one
  obtain rfl : v = Value.ref a := rx
  obtain rfl : u = Value.ref b := ru
  obtain ⟨z1, hd1, vs, r1, dd1⟩ := dk_of I.hok ha
  obtain ⟨z2, hd2, ws, r2, dd2⟩ := dk_rd I.hok hb
  have l1 : kvs.length = vs.length := r1.length
  have l2 : more.length = ws.length := r2.length
  refine call_meetsIn PySem.F.slot_dict_update dd1.typeIs PySem.F.entry_dict_update (PySem.F.args_dict_update_2 _ _) (meets_dict_update (mixKind X.prog X.w) a b hab hd2) ⟨vs, ws, dd1, dd2, by omega, fun h' d1 d2 hs => ?_⟩
  have he : ∃ q, h'.get? a = some q := let ⟨q, _, _, hq, _⟩ := d1; ⟨q, hq⟩
  have hzz : (mergeK kvs more).length ≤ sizeLine := Nat.le_trans (length_mergeK more kvs) hz
  exact ⟨.non, _, d_write I (by rw [ha]; exact True.intro) hs he (dk_new hzz hd1 (r2.merge r1) d1), rfl, q⟩
end L2
namespace DD
open PySem PySem.Spec L2 RZ
def mMeth (ty : Hd → D → Bool) (f : D → List D → Hd → Res O) (mo : ME) (mas : MA) : Env → Hd → Res O := fun ρ h => (mo ρ h).bind fun x h => if ty h x then (mas ρ h).bind fun ds h => f x ds h else .bad
def TyS (c : Ct) (T : String) (ty : Hd → D → Bool) : Prop := ∀ {w : Wd} {h : Hd} {H : Hp} {x : D} {v : V}, SR c w h H → VR c w x v → ty h x = true → tyV c.K T v H
def CallM (c : Ct) (r : V → List V → Hp → VK → Prop) (f : D → List D → Hd → Res O) : Prop :=
  ∀ {w : Wd} {W : WX} {σ : L2.St} {h : Hd} {H : Hp} {v : V} {vs : List V} {x : D} {ds : List D} {Q : VK}, SR c w h H → VR c w x v → VRs c w ds vs → Post (RO c) c w W σ (f x ds h) Q → r v vs H Q
section
variable {X : Cx} {W : WX} {o e : Expr} {es : List Expr} {mo : ME} {mas : MA} {apos cpos : Pos} {T id : String} {name : Str} {r : V → List V → Hp → VK → Prop} {f : D → List D → Hd → Res O} {ty : Hd → D → Bool}
theorem e_meth (pa : PlainAttrs T) (slot : Slot T name id) (hty : typeOf (.builtin id) = pure (.type "method_descriptor")) (hm : MtR X id r) (hT : TyS (Cx.ct X) T ty) (hf : CallM (Cx.ct X) r f) (ho : SE X W o mo) (ha : SA X W (e :: es) mas)
    (hbase : attributeBase o name X.env (eval o X.env) = eval o X.env := by rfl)
    (hfew : ((backTo cpos (starEach (e :: es) X.env)).all (fun x => !x.1) && (backToKw cpos (keywordEach [] X.env)).all (fun x => x.1.isSome)
      && decide ((e :: es).length + ([] : List Keyword).length + (if ([] : List Keyword).isEmpty then 0 else 1) < 30)) = true := by rfl)
    (hline : (apos.endLine == cpos.line) = true := by rfl) (hs : starEach (e :: es) X.env = (false, eval e X.env) :: starEach es X.env := by rfl) (hplain : (backTo cpos (starEach es X.env)).any (·.1) = false := by rfl) :
    SO X W (.Call (.Attribute o name apos) (e :: es) [] cpos) (mMeth ty f mo mas) := PE.imp (pe_bm pa slot hty hm ho ha hbase hfew hline hs hplain) fun σ H Q q => by
  refine (tP.bind (k := fun ρ x h => if ty h x then (mas ρ h).bind fun ds h => f x ds h else .bad) q).mono fun v H1 ⟨w1, ρ, h1, d, e1, s1, r1, p1⟩ => ?_
  split at p1
  · rename_i hd
    refine ⟨hT s1 r1 hd, w1, ρ, h1, e1, s1, (Post.bind p1).mono fun us H2 ⟨w2, h2, ds, l2, rs, s2, p2⟩ => ?_⟩
    exact hf s2 (r1.le l2) rs p2
  · exact p1.elim
end
theorem VRs.one_inv' {c : Ct} {w : Wd} {d : D} {vs : List V} (r : VRs c w [d] vs) : ∃ v, vs = [v] ∧ VR c w d v := by
  simp only [VRs] at r
  obtain ⟨v, us, rfl, r1, rfl⟩ := r
  exact ⟨v, rfl, r1⟩
def updF : D → List D → Hd → Res O
  | .ref r, [.dct ks2 us2], h => match h[r]? with
    | some (.dct ks us) => (match keysD (ks ++ ks2) with
      | some kk => if kk.Nodup ∧ kk.length ≤ 1000 then .ok (.val .non) (h.set r (.dct (ks ++ ks2) (us ++ us2))) else .bad
      | none => .bad)
    | _ => .bad
  | _, _, _ => .bad
theorem keysD_app : ∀ {a b : List D} {kk : List Key}, keysD (a ++ b) = some kk → ∃ k1 k2, keysD a = some k1 ∧ keysD b = some k2 ∧ kk = k1 ++ k2
  | [], b, kk, e => ⟨[], kk, rfl, e, rfl⟩
  | d :: a, b, kk, e => by
    rw [List.cons_append] at e
    unfold keysD at e
    split at e
    · rename_i k l e1 e2
      cases e
      obtain ⟨k1, k2, q1, q2, rfl⟩ := keysD_app e2
      exact ⟨k :: k1, k2, by unfold keysD; rw [e1, q1], q2, rfl⟩
    · cases e
theorem keysD_fst {ks : List D} {kvs : List (Key × V)} {kk : List Key} (e : ks.map keyD = kvs.map (fun p => some p.1)) (k : keysD ks = some kk) : kvs.map (·.1) = kk := by
  rw [keysD_map k] at e
  have e' : kk.map some = (kvs.map (·.1)).map some := by rw [List.map_map]; exact e
  exact ((List.map_inj_right (fun _ _ z => Option.some.inj z)).mp e').symm
/-- an own cell's place -/
theorem cell_at {c : Ct} {w : Wd} {h : Hd} {H : Hp} {r : Nat} {z : Cell} {v : V} (s : SR c w h H) (rx : VR c w (.ref r) v) (e : h[r]? = some z) (g : z ≠ .gone) : ∃ a, v = .ref a ∧ w.φ r = some a ∧ w.F a = none ∧ CellOk c w H a z := by
  simp only [VR] at rx
  obtain ⟨a, rfl, f⟩ := rx
  obtain ⟨b, q1, q2, _, q4⟩ := s.cell r z e g
  rw [f] at q1; cases q1
  exact ⟨a, rfl, f, q2, q4⟩
/-- an own dict -/
def isOwnD (h : Hd) : D → Bool
  | .ref r => match h[r]? with
    | some (.dct _ _) => true
    | some (.dtt _ _) => true
    | _ => false
  | _ => false
theorem isOwnD_ty {c : Ct} : TyS c "dict" isOwnD := fun {w h H x v} s rx e => by
  cases x with
  | ref r =>
    simp only [isOwnD] at e
    split at e
    · rename_i ks us ex
      obtain ⟨a, rfl, f, _, kvs, q, _⟩ := cell_at s rx ex (by intro z; cases z)
      exact .inr (.inr (.inl ⟨rfl, .inl ⟨kvs, q⟩⟩))
    · rename_i ks us ex
      obtain ⟨a, rfl, f, _, kvs, q, _⟩ := cell_at s rx ex (by intro z; cases z)
      exact .inr (.inr (.inl ⟨rfl, .inr ⟨kvs, q⟩⟩))
    · cases e
  | _ => simp [isOwnD] at e
theorem s_upd {c : Ct} : CallM c rUpd updF := fun {w W σ h H v vs x ds Q} s rx rs p => by
  unfold updF at p
  split at p
  · rename_i r ks2 us2 h'
    split at p
    · rename_i ks us ex
      split at p
      · rename_i kk ek
        split at p
        · rename_i hn
          obtain ⟨k1, k2, g1, g2, rfl⟩ := keysD_app ek
          obtain ⟨a, rfl, f, fF, kvs, q, kq, z⟩ := cell_at s rx ex (by intro z; cases z)
          obtain ⟨u, rfl, ru⟩ := rs.one_inv'
          simp only [VR] at ru
          obtain ⟨b, od, more, rfl, q2, kq2, z2⟩ := ru
          have hab : a ≠ b := by rintro rfl; rw [fF] at q2; cases q2
          have n1 := keysD_fst kq g1
          have n2 := keysD_fst kq2 g2
          have em : mergeK kvs more = kvs ++ more := mergeK_new _ _ (by rw [List.map_append, n1, n2]; exact hn.1)
          refine ⟨a, b, kvs, more, rfl, rfl, hab, q, .inr ⟨od, s.F _ _ q2⟩, ?_, ?_⟩
          · have h1 : kvs.length + more.length = (k1 ++ k2).length := by rw [List.length_append, ← n1, ← n2]; simp
            rw [h1]; exact sz_small hn.2
          · rw [em]
            refine p _ w _ (.refl _) (by simp only [RO, VR]) ?_
            exact s.write ex (by intro z; cases z) f ⟨_, upd_same, by rw [List.map_append, List.map_append, kq, kq2], by rw [List.map_append]; exact z.append z2⟩ (by intro z; cases z)
        · exact p.elim
      · exact p.elim
    · exact p.elim
  · exact p.elim
def isOwnL (h : Hd) : D → Bool
  | .ref r => match h[r]? with
    | some (.lst _) => true
    | _ => false
  | _ => false
theorem isOwnL_ty {c : Ct} : TyS c "list" isOwnL := fun {w h H x v} s rx e => by
  cases x with
  | ref r =>
    simp only [isOwnL] at e
    split at e
    · rename_i xs ex
      obtain ⟨a, rfl, f, _, vs, q, z⟩ := cell_at s rx ex (by intro z; cases z)
      exact .inl ⟨rfl, vs, SqL.of q⟩
    · cases e
  | _ => simp [isOwnL] at e
def appF : D → List D → Hd → Res O
  | .ref r, [d], h => match h[r]? with
    | some (.lst xs) => if xs.length < sizeLine then .ok (.val .non) (h.set r (.lst (xs ++ [d]))) else .bad
    | _ => .bad
  | _, _, _ => .bad
theorem s_app {c : Ct} : CallM c rAppend appF := fun {w W σ h H v vs x ds Q} s rx rs p => by
  unfold appF at p
  split at p
  · rename_i r d h'
    split at p
    · rename_i xs ex
      split at p
      · rename_i hz
        obtain ⟨a, rfl, f, _, us, q, z⟩ := cell_at s rx ex (by intro z; cases z)
        obtain ⟨u, rfl, ru⟩ := rs.one_inv'
        refine ⟨a, us, u, rfl, rfl, q, by rw [← z.len]; exact hz, p _ w _ (.refl _) (by simp only [RO, VR]) ?_⟩
        exact s.write ex (by intro z; cases z) f ⟨_, upd_same, z.append (.one ru)⟩ (by intro z; cases z)
      · exact p.elim
    · exact p.elim
  · exact p.elim
theorem VRs.erase {c : Ct} {w : Wd} : ∀ {ds : List D} {vs : List V} (n : Nat), VRs c w ds vs → VRs c w (ds.eraseIdx n) (vs.eraseIdx n)
  | [], vs, n, r => by simp only [VRs] at r; subst r; simpa using VRs.nil
  | d :: ds, vs, 0, r => by
    simp only [VRs] at r
    obtain ⟨v, us, rfl, _, r2⟩ := r
    simpa using r2
  | d :: ds, vs, n + 1, r => by
    simp only [VRs] at r
    obtain ⟨v, us, rfl, r1, r2⟩ := r
    simp only [List.eraseIdx_cons_succ]
    exact .cons r1 (VRs.erase n r2)
end DD
namespace L2
open PySem PySem.Spec PyProof.Rows
section
variable {X : Cx} {es : List Expr} {e : Expr} {t : TG} {u : TGs} {pos p : Pos} {k i : Nat}
theorem PG.or {e : Expr} {t u : TG} (a : PG X e t) (b : PG X e u) : PG X e (fun v σ H Q => t v σ H Q ∨ u v σ H Q) := ⟨fun pins s σ H v w Q I r h => h.elim (fun h => a.run pins s σ H v w Q I r h) (fun h => b.run pins s σ H v w Q I r h)⟩
end
end L2
namespace DD
open PySem PySem.Spec L2 RZ
def gStarM (i : Nat) (gs : MGs) : MG := fun d ρ h => match d with
  | .tup xs => if i ≤ xs.length ∧ xs.length ≤ 16384 then gs (xs.take i ++ [.lst (xs.drop i)]) ρ h else .bad
  | d => match lstOf h d with
    | some xs => if i ≤ xs.length ∧ xs.length ≤ 16384 then gs (xs.take i ++ [.lst (xs.drop i)]) ρ h else .bad
    | none => .bad
def putG {κ : Type} [DecidableEq κ] (f : D → Option κ) (ks us : List D) (k : κ) (v : D) : List D := match ks, us with
  | k' :: ks, u :: us => if f k' = some k then v :: putG f ks us k v else u :: putG f ks us k v
  | _, us => us
abbrev putU : List D → List D → Key → D → List D := putG keyD
/-- the entries with one more, or one anew -/
def dctPut (ks us : List D) (y : D) (k : Key) (v : D) : Cell := match valD ks us k with
  | some _ => .dct ks (putU ks us k v)
  | none => .dct (ks ++ [y]) (us ++ [v])
def dttPut (ks us : List D) (y : D) (k : List Key) (v : D) : Cell := match valT ks us k with
  | some _ => .dtt ks (putG tkeyD ks us k v)
  | none => .dtt (ks ++ [y]) (us ++ [v])
def dputF (x y v : D) (h : Hd) : Option Hd := match x with
  | .ref r => match h[r]? with
    | some (.dct ks us) => match keyD y with
      | some k => if ks.length < 1000 then some (h.set r (dctPut ks us y k v)) else none
      | none => none
    | some (.dtt ks us) => match tkeyD y with
      | some k => if ks.length < 1000 then some (h.set r (dttPut ks us y k v)) else none
      | none => none
    | _ => none
  | _ => none
def mDPut (mo mk mv : ME) : MS := liftR (fun ρ h => (mv ρ h).bind fun v h => (mo ρ h).bind fun x h => (mk ρ h).bind fun y h => match dputF x y v h with
  | some h => .ok () h
  | none => .bad) fun _ ρ h => .nx ρ h
theorem putG_ok {κ : Type} [DecidableEq κ] {f : D → Option κ} {c : Ct} {w : Wd} {k : κ} {v : D} {z : V} (rz : VR c w v z) : ∀ {ks us : List D} {kvs : List (κ × V)}, ks.map f = kvs.map (fun p => some p.1) → VRs c w us (kvs.map (·.2)) →
    VRs c w (putG f ks us k v) ((kvs.map fun kv => if kv.1 = k then (kv.1, z) else kv).map (·.2))
  | [], us, [], _, r => by unfold putG; simpa using r
  | [], _, _ :: _, e, _ => by simp at e
  | _ :: _, _, [], e, _ => by simp at e
  | k' :: ks, [], p :: kvs, e, r => by simp only [VRs] at r; simp at r
  | k' :: ks, u :: us, p :: kvs, e, r => by
    simp only [List.map_cons, List.cons.injEq] at e
    simp only [VRs, List.map_cons, List.cons.injEq] at r
    obtain ⟨v', r2, ⟨rfl, rfl⟩, rv, rr⟩ := r
    have ih := putG_ok (k := k) rz e.2 rr
    unfold putG
    by_cases h : p.1 = k
    · rw [if_pos (by rw [e.1, h])]
      simp only [List.map_cons, if_pos h]
      exact .cons rz ih
    · rw [if_neg (by rw [e.1]; intro z; exact h (Option.some.inj z))]
      simp only [List.map_cons, if_neg h]
      exact .cons rv ih
/-- both ways of a store, once -/
theorem put_two {κ : Type} [DecidableEq κ] {f : D → Option κ} {c : Ct} {w : Wd} {k : κ} {v y : D} {vv : V} (rv : VR c w v vv) (ey : f y = some k) {ks us : List D} {kvs : List (κ × V)} (kq : ks.map f = kvs.map (fun p => some p.1)) (z : VRs c w us (kvs.map (·.2))) :
    (∀ d, valG f ks us k = some d → ks.map f = (putK kvs k vv).map (fun p => some p.1) ∧ VRs c w (putG f ks us k v) ((putK kvs k vv).map (·.2))) ∧
    (valG f ks us k = none → (ks ++ [y]).map f = (putK kvs k vv).map (fun p => some p.1) ∧ VRs c w (us ++ [v]) ((putK kvs k vv).map (·.2))) := by
  have vk := valG_ok (k := k) kq z
  constructor
  · intro d hv
    obtain ⟨z', ez, _⟩ := vk.1 d hv
    have ep : putK kvs k vv = kvs.map fun kv => if kv.1 = k then (kv.1, vv) else kv := by unfold putK; rw [if_pos (by rw [valV_any, ez]; rfl)]
    rw [ep]
    refine ⟨?_, putG_ok rv kq z⟩
    rw [kq, List.map_map]
    apply List.map_congr_left
    intro p _
    by_cases hp : p.1 = k <;> simp [hp]
  · intro hv
    have ep : putK kvs k vv = kvs ++ [(k, vv)] := by unfold putK; rw [if_neg (by rw [valV_any, vk.2 hv]; simp)]
    rw [ep]
    refine ⟨by simp [kq, ey], ?_⟩
    rw [List.map_append]
    exact z.append (.one rv)
theorem dputF_ok {c : Ct} {w : Wd} {h h' : Hd} {H : Hp} {x y v : D} {vx vy vv : V} (s : SR c w h H) (rx : VR c w x vx) (ry : VR c w y vy) (rv : VR c w v vv) (e : dputF x y v h = some h') : ∃ a H', vx = .ref a ∧ DPut H a vy vv H' ∧ SR c w h' H' := by
  unfold dputF at e
  split at e
  · rename_i r
    split at e
    · rename_i ks us ex
      split at e
      · rename_i k ek
        split at e
        · rename_i fk
          obtain ⟨a, rfl, f, fF, kvs, q, kq, z⟩ := cell_at s rx ex (by intro z; cases z)
          have hl : kvs.length < sizeLine := by
            have h1 : kvs.length = ks.length := by have := congrArg List.length kq; simpa using this.symm
            rw [h1, sizeLine_eq]; omega
          have ey := key_val ry ek
          subst ey
          cases e
          refine ⟨a, _, rfl, .k q hl, ?_⟩
          have pt := put_two rv ek kq z
          unfold dctPut
          cases hv : valD ks us k with
          | some d => exact s.write ex (by intro z; cases z) f ⟨_, upd_same, pt.1 d hv⟩ (by intro z; cases z)
          | none => exact s.write ex (by intro z; cases z) f ⟨_, upd_same, pt.2 hv⟩ (by intro z; cases z)
        · cases e
      · cases e
    · rename_i ks us ex
      split at e
      · rename_i k ek
        split at e
        · rename_i fk
          obtain ⟨a, rfl, f, fF, kvs, q, kq, z⟩ := cell_at s rx ex (by intro z; cases z)
          have hl : kvs.length < sizeLine := by
            have h1 : kvs.length = ks.length := by have := congrArg List.length kq; simpa using this.symm
            rw [h1, sizeLine_eq]; omega
          obtain ⟨b, rfl, eb⟩ := tkey_val ry ek
          cases e
          refine ⟨a, _, rfl, .t q (s.F _ _ eb) hl, ?_⟩
          have pt := put_two rv ek kq z
          unfold dttPut
          cases hv : valT ks us k with
          | some d => exact s.write ex (by intro z; cases z) f ⟨_, upd_same, pt.1 d hv⟩ (by intro z; cases z)
          | none => exact s.write ex (by intro z; cases z) f ⟨_, upd_same, pt.2 hv⟩ (by intro z; cases z)
        · cases e
      · cases e
    · cases e
  · cases e
section
variable {X : Cx} {W : WX} {o e f value : Expr} {mo mk mv : ME} {pos apos cpos pos' : Pos} {k : Nat}
theorem s_dput (hr : Room k X.A) (ho : SE X W o mo) (hk : SE X W e mk) (hv : SE X W value mv) (hs : swapsWith value (some (.Subscript o e pos')) pos.line X.env = pure false := by rfl) : SS X W (.Assign [.Subscript o e pos'] value pos) (mDPut mo mk mv) :=
  PS.imp (ps_dput (hu1 hr) ho hk hv hs) fun Dn σ H q => by
  have q' : tP (fun _ _ (_ : Unit) (_ : Unit) => True) (Cx.ct X) W (fun ρ h => (mv ρ h).bind fun v h => (mo ρ h).bind fun x h => (mk ρ h).bind fun y h => match dputF x y v h with
      | some h => .ok () h
      | none => .bad) σ H (fun _ H1 => Dn.nx σ H1) := (tS.lift q).mono fun v H1 ⟨w1, ρ, h1, d, e1, s1, r1, p1⟩ => p1.nx e1 s1
  refine (tP.bind q').mono fun v H1 ⟨w1, ρ, h1, d, e1, s1, r1, p1⟩ => ?_
  refine ⟨w1, ρ, h1, e1, s1, (Post.bind p1).mono fun x H2 ⟨w2, h2, dx, l2, rx, s2, p2⟩ => ?_⟩
  refine ⟨w2, ρ, h2, e1.le l2, s2, (Post.bind p2).mono fun y H3 ⟨w3, h3, dy, l3, ry, s3, p3⟩ => ?_⟩
  split at p3
  · rename_i h4 e4
    obtain ⟨a, H', ea, g, s'⟩ := dputF_ok s3 (rx.le l3) ry (r1.le (l2.trans l3)) e4
    exact ⟨a, H', ea, g, p3 () w3 H' (.refl _) trivial s'⟩
  · exact p3.elim
end
structure KDat (K : PySem.W.Frag) (w : World) (mg : Str → Option Value) (x : Str) (kvs : List (Str × D)) : Prop where
  ex : ∃ (d : Addr) (es : Array DictEntry) (n : Nat), mg x = some (.ref d) ∧ KDict K w d es n ∧ ∀ z : Str, match kvs.lookup z with
    | some dv => ∃ u v, PySem.W.nsIn K d z = some (some u) ∧ RelV v u ∧ ∀ wd : Wd, VR ⟨K, mg⟩ wd dv v
    | none => PySem.W.nsIn K d z = some none
def kixF (x : Str) (kvs : List (Str × D)) : D → D → Option D
  | .glb y, .str z => if y = x then kvs.lookup z else none
  | _, _ => none
def mKIx (x : Str) (kvs : List (Str × D)) (mk : ME) : ME := fun ρ h => (mk ρ h).bind fun y h => optR (kixF x kvs (.glb x) y) h
def mKGet (x : Str) (kvs : List (Str × D)) (mk : ME) : ME := fun ρ h => (mk ρ h).bind fun y h => match y with
  | .str z => .ok ((kvs.lookup z).getD .non) h
  | _ => .bad
section
variable {X : Cx} {W : WX} {e : Expr} {mk : ME} {pos apos cpos p : Pos} {x : Str} {kvs : List (Str × D)} {k : Nat}
theorem e_kix (hd : KDat X.K X.w X.mg x kvs) (hk : SE X W e mk) (hs : PlainIx e := by intro _ _; rfl) (hg : Gl X x := by rfl) (hdb : (x == ("__debug__" : Str)) = false := by decide) : SE X W (.Subscript (.Name x p) e pos) (mKIx x kvs mk) := by
  obtain ⟨d, es, n, hm, D, hz⟩ := hd.ex
  have hn : SE X W (.Name x p) (mC (.glb x)) := e_glob (v := .ref d) hm rfl (fun w => by simp only [VR]; exact ⟨d, rfl, hm⟩) hg hdb
  refine PE.imp (pe_ix ix_kdict hn hk hs) fun σ H Q ⟨w, ρ, h, er, s, q⟩ => ?_
  refine ⟨w, ρ, h, er, s, fun v w1 H1 l1 r1 s1 => ?_⟩
  simp only [VR] at r1
  obtain ⟨a, rfl, ha⟩ := r1
  have ha' : X.mg x = some (.ref a) := ha
  rw [hm] at ha'
  cases ha'
  refine ⟨w1, ρ, h, er.le l1, s1, (Post.bind (Post.le l1 q)).mono fun u H2 ⟨w2, h2, dy, l2, ry, s2, p2⟩ => ?_⟩
  obtain ⟨dv, ed, p3⟩ := optR_post p2
  cases dy with
  | str z =>
    simp only [kixF, if_true] at ed
    have hz' := hz z
    rw [ed] at hz'
    obtain ⟨u0, v0, e0, r0, rv⟩ := hz'
    simp only [VR] at ry
    exact ⟨d, z, v0, rfl, ry, ⟨es, n, u0, D.at_, D.lit, e0, r0⟩, p3.ret (rv w2) s2⟩
  | _ => simp [kixF] at ed
end
end DD
namespace L2
open PySem PySem.Spec PyProof.Rows
theorem pe_kget {X : Cx} {d : Addr} {es : Array DictEntry} {n : Nat} {o e : Expr} {td ty : TE} {apos cpos : Pos} (D : KDict X.K X.w d es n) (ho : PE X o td) (he : PE X e ty) (m : M1 X o "get" apos e cpos) : PE X (.Call (.Attribute o "get" apos) [e] [] cpos)
    (fun σ H Q => td σ H fun x H1 => x = .ref d ∧ ty σ H1 fun y H2 => ∃ (z : Str) (r : Option Value), y = .str z ∧ PySem.W.nsIn X.K d z = some r ∧ (match r with
      | some u0 => ∃ v0, RelV v0 u0 ∧ Q v0 H2
      | none => Q .non H2)) := by
  refine ⟨fun pins s σ H Q I h => ?_⟩
  refine wpAny_Call_method m.base m.few m.line PySem.F.plainAttrs_dict PySem.F.slot_dict_get PySem.F.type_dict_get (thn (ho.run pins s σ H _ I h) fun u s1 ⟨x, H1, I1, rx, ex, q1⟩ => ?_)
  subst ex
  obtain rfl : u = Value.ref d := rx
  refine ⟨kd_type D I1, fun b q => ?_, ?_⟩
  · cases q
    exact ⟨_, I1.kIn _ _ D.at_, rfl⟩
  rw [m.trees]
  refine Calls.callWith_builtin rfl (Calls.evalArgs_plain (Calls.spliced_cons (thn (he.run pins s1 σ H1 _ I1 q1) fun iv s2 ⟨y, H2, I2, ry, z, r, ey, en, q2⟩ => Calls.spliced_nil ?_)))
  subst ey
  obtain ⟨t, rfl⟩ := (show ∃ t, iv = Value.str z t from ry)
  refine call_meetsIn PySem.F.slot_dict_get (kd_type D I2) PySem.F.entry_dict_get (PySem.F.args_dict_get_2 _ _) (meets_dict_get (strKind X.prog X.w) d (strKind_is X.prog X.w z t) D.low) ⟨_, PySem.W.mapOf_K (prog := X.prog) (w := X.w) I2.kIn D.at_ D.lit, ?_⟩
  rw [PySem.W.find_K D.at_ en]
  cases r with
  | some u0 =>
    obtain ⟨v0, r0, q3⟩ := q2
    exact ⟨v0, H2, I2.tok _, r0, q3⟩
  | none => exact ⟨.non, H2, I2.tok _, rfl, q2⟩
end L2
namespace DD
open PySem PySem.Spec L2 RZ
section
variable {X : Cx} {W : WX} {e : Expr} {mk : ME} {pos apos cpos p : Pos} {x : Str} {kvs : List (Str × D)} {k : Nat}
theorem e_kget (hd : KDat X.K X.w X.mg x kvs) (hk : SE X W e mk) (m : M1 X (.Name x p) "get" apos e cpos := by exact ⟨rfl, rfl, rfl, rfl⟩) (hg : Gl X x := by rfl) (hdb : (x == ("__debug__" : Str)) = false := by decide) : SE X W (.Call (.Attribute (.Name x p) "get" apos) [e] [] cpos) (mKGet x kvs mk) := by
  obtain ⟨d, es, n, hm, D, hz⟩ := hd.ex
  have hn : SE X W (.Name x p) (mC (.glb x)) := e_glob (v := .ref d) hm rfl (fun w => by simp only [VR]; exact ⟨d, rfl, hm⟩) hg hdb
  refine PE.imp (pe_kget D hn hk m) fun σ H Q ⟨w, ρ, h, er, s, q⟩ => ?_
  refine ⟨w, ρ, h, er, s, fun v w1 H1 l1 r1 s1 => ?_⟩
  simp only [VR] at r1
  obtain ⟨a, rfl, ha⟩ := r1
  have ha' : X.mg x = some (.ref a) := ha
  rw [hm] at ha'
  cases ha'
  refine ⟨rfl, w1, ρ, h, er.le l1, s1, (Post.bind (Post.le l1 q)).mono fun u H2 ⟨w2, h2, dy, l2, ry, s2, p2⟩ => ?_⟩
  cases dy with
  | str z =>
    simp only [VR] at ry
    have hz' := hz z
    have p3 : Post (RV (Cx.ct X)) (Cx.ct X) w2 W σ (.ok ((kvs.lookup z).getD .non) h2) Q := p2
    cases el : kvs.lookup z with
    | some dv =>
      rw [el] at hz' p3
      obtain ⟨u0, v0, e0, r0, rv⟩ := hz'
      exact ⟨z, some u0, ry, e0, v0, r0, p3.ret (rv w2) s2⟩
    | none =>
      rw [el] at hz' p3
      exact ⟨z, none, ry, hz', p3.ret (by simp only [Option.getD_none, VR]) s2⟩
  | _ => exact p2.elim
def mKIn (kvs : List (Str × D)) (mk : ME) : MT := fun ρ h => (mk ρ h).bind fun y h => match y with
  | .str z => .ok (kvs.lookup z).isSome h
  | _ => .bad
end
end DD
namespace L2
open PySem PySem.Spec PyProof.Rows
/-- op in a tuple by data -/
def rInTD (K : PySem.W.Frag) (n : Bool) : R2 := fun x y H Q => ∃ d ds, Dp K H x d ∧ Dp K H y (.tuple ds) ∧ d.canLay0 = true ∧ PyData.canLayAll0 ds = true ∧ PyData.depthAll ds ≤ 64 ∧ Q (.bl (if n then !(ds.any fun z => PyData.eqv z d) else ds.any fun z => PyData.eqv z d)) H
theorem op_inTD {X : Cx} (hu : X.A.units + 66 < cLine) : OpR X (compareOp .In) (rInTD X.K false) := by
  intro pins s σ H x y v u Q I rx ry h
  obtain ⟨d, ds, hd, he, sd, se, dp, q⟩ := h
  obtain ⟨as, r1⟩ := Dp.reads I d x v hd rx
  obtain ⟨bs, r2⟩ := Dp.reads I (.tuple ds) y u he ry
  exact SeqAt.in_tuple_reads r2 r1 se sd (by omega) ⟨.bl _, H, I, rfl, q⟩
theorem op_notInTD {X : Cx} (hu : X.A.units + 66 < cLine) : OpR X (compareOp .NotIn) (rInTD X.K true) := by
  intro pins s σ H x y v u Q I rx ry h
  obtain ⟨d, ds, hd, he, sd, se, dp, q⟩ := h
  obtain ⟨as, r1⟩ := Dp.reads I d x v hd rx
  obtain ⟨bs, r2⟩ := Dp.reads I (.tuple ds) y u he ry
  exact SeqAt.notIn_tuple_reads r2 r1 se sd (by omega) ⟨.bl _, H, I, rfl, q⟩
end L2
namespace DD
open PySem PySem.Spec L2 RZ
def inTupD (h : Hd) (x y : D) : Option Bool := match y, pyO h x with
  | .tup ys, some d => if isPys ys && d.canLay0 && PyData.canLayAll0 (pyDs ys) && decide (PyData.depthAll (pyDs ys) ≤ 64) then some ((pyDs ys).any fun z => PyData.eqv z d) else none
  | .ktp ys, some d => if isPys ys && d.canLay0 && PyData.canLayAll0 (pyDs ys) && decide (PyData.depthAll (pyDs ys) ≤ 64) then some ((pyDs ys).any fun z => PyData.eqv z d) else none
  | _, _ => none
def cInX (d e : D) (h : Hd) : Res Bool := match inF h d e with
  | some b => .ok b h
  | none => optR (inTupD h d e) h
def cNotInX (d e : D) (h : Hd) : Res Bool := match inF h d e with
  | some b => .ok (!b) h
  | none => optR ((inTupD h d e).map (!·)) h
theorem inTupD_ok {c : Ct} {w : Wd} {h : Hd} {H : Hp} {x y : V} {dx dy : D} {b : Bool} (s : SR c w h H) (rx : VR c w dx x) (ry : VR c w dy y) (e : inTupD h dx dy = some b) :
    ∃ d ds, Dp c.K H x d ∧ Dp c.K H y (.tuple ds) ∧ d.canLay0 = true ∧ PyData.canLayAll0 ds = true ∧ PyData.depthAll ds ≤ 64 ∧ (ds.any fun z => PyData.eqv z d) = b := by
  unfold inTupD at e
  split at e
  · rename_i ys d ed
    split at e
    · rename_i hc
      simp only [Bool.and_eq_true, decide_eq_true_eq] at hc
      cases e
      have r2 := dp_of s ry (show isPy (.tup ys) = true by simpa only [isPy] using hc.1.1.1)
      simp only [pyD] at r2
      exact ⟨d, pyDs ys, pyO_ok s rx ed, r2, hc.1.1.2, hc.1.2, hc.2, rfl⟩
    · cases e
  · rename_i ys d ed
    split at e
    · rename_i hc
      simp only [Bool.and_eq_true, decide_eq_true_eq] at hc
      cases e
      have r2 := dp_of s ry (show isPy (.ktp ys) = true by simpa only [isPy] using hc.1.1.1)
      simp only [pyD] at r2
      exact ⟨d, pyDs ys, pyO_ok s rx ed, r2, hc.1.1.2, hc.1.2, hc.2, rfl⟩
    · cases e
  · cases e
theorem s_inX {c : Ct} : OpB c (fun x y H Q => rInA c.K x y H Q ∨ rInTD c.K false x y H Q) cInX := fun {w W σ h H x y dx dy Q} s rx ry p => by
  unfold cInX at p
  split at p
  · rename_i b eb
    exact .inl (s_in s rx ry (by unfold cIn; rw [eb]; exact p))
  · obtain ⟨b, eb, p⟩ := optR_post p
    obtain ⟨d, ds, a1, a2, a3, a4, a5, a6⟩ := inTupD_ok s rx ry eb
    exact .inr ⟨d, ds, a1, a2, a3, a4, a5, b, by simpa using a6, p.ret rfl s⟩
theorem hu66 {k : Nat} {A : Around} (hr : Room k A) : A.units + 66 < cLine := by have := hr.un; omega
theorem s_notinX {c : Ct} : OpB c (fun x y H Q => rNotInA c.K x y H Q ∨ rInTD c.K true x y H Q) cNotInX := fun {w W σ h H x y dx dy Q} s rx ry p => by
  unfold cNotInX at p
  split at p
  · rename_i b eb
    exact .inl (s_notin s rx ry (by unfold cNotIn; rw [eb]; exact p))
  · obtain ⟨b, eb, p⟩ := optR_post p
    rw [Option.map_eq_some_iff] at eb
    obtain ⟨b', eb, rfl⟩ := eb
    obtain ⟨d, ds, a1, a2, a3, a4, a5, a6⟩ := inTupD_ok s rx ry eb
    exact .inr ⟨d, ds, a1, a2, a3, a4, a5, !b', by simp [a6], p.ret rfl s⟩
def isStr (_ : Hd) : D → Bool
  | .str _ => true
  | _ => false
def splF : D → List D → Hd → Res O
  | .str a, [.str b], h => if b.length ≠ 0 ∧ a.length ≤ 100000 then .ok (.new (.lst ((Txt.split a b).map .str))) h else .bad
  | _, _, _ => .bad
section
variable {X : Cx} {W : WX} {o e : Expr} {mo ma : ME} {apos pos : Pos}
def mSplit (mo ma : ME) : Env → Hd → Res O := fun ρ h => (mo ρ h).bind fun x h => if isStr h x then (ma ρ h).bind fun d h => splF x [d] h else .bad
end
def mCallD (n : Nat) (m : List D → Hd → Res D) (dvs : List D) (ma : MA) : ME := fun ρ h => (ma ρ h).bind fun ds h => if ds.length = n then m (ds ++ dvs) h else .bad
def mCallK (n j : Nat) (m : List D → Hd → Res D) (ma mk : MA) : ME := fun ρ h => (ma ρ h).bind fun ds h => (mk ρ h).bind fun es h => if ds.length = n ∧ es.length = j then m (ds ++ es) h else .bad
structure CalleeK (P : Program) (w : World) (K : PySem.W.Frag) (mg : Str → Option Value) (base : Heap) (k : Nat) (x : Str) (n : Nat) (ks : List Str) (dvs : List D) (m : List D → Hd → Res D) : Prop where
  ex : ∃ (f : Addr) (fd : FuncData) (ps : List Str) (dfs : List V) (ds : List Value) (g : List Value → List Value → List Value), FnOk P w K mg base (L2.CX P w) k f fd ps (spM ⟨K, mg⟩ (n + ks.length) m) ∧ mg x = some (.ref f) ∧ PySem.W.keepIn K (.ref f) = true ∧
    Binds K fd ps ds ∧ Vals dfs ds ∧ (∀ w : Wd, VRs ⟨K, mg⟩ w dvs dfs) ∧ KBn K fd ps n ks g (fun vs zs => vs ++ zs) ∧ dvs.length = ks.length
def SK (X : Cx) (W : WX) (kws : List Keyword) (m : MA) : Prop := PK X kws (tAr (Cx.ct X) W m)
section
variable {X : Cx} {W : WX} {e : Expr} {es : List Expr} {kws : List Keyword} {ma : ME} {mas mks : MA} {pos p kpos : Pos} {x : Str} {k n : Nat} {ks : List Str} {dvs : List D} {m : List D → Hd → Res D} {nm : Option Str}
theorem k_nil : SK X W [] aNil := ⟨fun pos pins s σ H Q I ⟨w, ρ, h, e, sr, p⟩ => pk_nil.run pos pins s σ H Q I (p.ret .nil sr)⟩
theorem k_cons (ha : SE X W e ma) (hr : SK X W kws mks) : SK X W (⟨nm, e, kpos⟩ :: kws) (aCons ma mks) := ⟨fun pos pins s σ H Q I q => (pk_cons ha hr).run pos pins s σ H Q I (by
  refine (tP.bind (k := fun ρ d h => (mks ρ h).bind fun ds h => .ok (d :: ds) h) q).mono fun v H1 ⟨w1, ρ, h1, d, e1, s1, r1, p1⟩ => ?_
  refine ⟨w1, ρ, h1, e1, s1, (Post.bind p1).mono fun vs H2 ⟨w2, h2, ds, l2, r2, s2, p2⟩ => ?_⟩
  exact p2.ret (.cons (r1.le l2) r2) s2)⟩
end
theorem CalleeK.mono {P : Program} {w : World} {K : PySem.W.Frag} {mg : Str → Option Value} {base : Heap} {k j n : Nat} {x : Str} {ks : List Str} {dvs : List D} {m : List D → Hd → Res D} (C : CalleeK P w K mg base j x n ks dvs m) (h : j ≤ k) : CalleeK P w K mg base k x n ks dvs m :=
  let ⟨f, fd, ps, dfs, ds, g, F, r⟩ := C.ex
  ⟨f, fd, ps, dfs, ds, g, F.mono h, r⟩
structure KCon (K : PySem.W.Frag) (mg : Str → Option Value) (x : Str) (d : D) : Prop where
  ex : ∃ v u, mg x = some u ∧ RelV v u ∧ ∀ wd : Wd, VR ⟨K, mg⟩ wd d v
theorem e_con {X : Cx} {W : WX} {p : Pos} {x : Str} {d : D} (hc : KCon X.K X.mg x d) (hg : Gl X x := by rfl) (hdb : (x == ("__debug__" : Str)) = false := by decide) : SE X W (.Name x p) (mC d) := by
  obtain ⟨v, u, hm, r, rv⟩ := hc.ex
  exact e_glob hm r rv hg hdb
/-- a written value is the datum d -/
def KRel (K : PySem.W.Frag) (mg : Str → Option Value) (d : D) (u : Value) : Prop := ∃ v, RelV v u ∧ ∀ wd : Wd, VR ⟨K, mg⟩ wd d v
theorem kr_str {K : PySem.W.Frag} {mg : Str → Option Value} {s : Str} {t : Tok} : KRel K mg (.str s) (.str s t) := ⟨.str s, ⟨_, rfl⟩, fun wd => by simp only [VR]⟩
theorem kr_int {K : PySem.W.Frag} {mg : Str → Option Value} {i : Int} {t : Tok} : KRel K mg (.int i) (.int i t) := ⟨.int i, ⟨_, rfl⟩, fun wd => by simp only [VR]⟩
theorem kr_bl {K : PySem.W.Frag} {mg : Str → Option Value} {b : Bool} : KRel K mg (.bl b) (.bool b) := ⟨.bl b, rfl, fun wd => by simp only [VR]⟩
def KRels (K : PySem.W.Frag) (mg : Str → Option Value) : List D → List Value → Prop
  | [], [] => True
  | d :: ds, u :: us => KRel K mg d u ∧ KRels K mg ds us
  | _, _ => False
theorem KRels.ex {K : PySem.W.Frag} {mg : Str → Option Value} : ∀ {ds : List D} {us : List Value}, KRels K mg ds us → ∃ vs, Vals vs us ∧ ∀ wd : Wd, VRs ⟨K, mg⟩ wd ds vs
  | [], [], _ => ⟨[], .nil, fun _ => .nil⟩
  | d :: ds, u :: us, h => by
    obtain ⟨v, r, rv⟩ := h.1
    obtain ⟨vs, rs, rvs⟩ := KRels.ex h.2
    exact ⟨v :: vs, .cons r rs, fun wd => .cons (rv wd) (rvs wd)⟩
  | [], _ :: _, h => h.elim
  | _ :: _, [], h => h.elim
theorem kr_tup {K : PySem.W.Frag} {mg : Str → Option Value} {a : Addr} {ds : List D} {its : Array Value} {n : Nat} {od : Option Addr} {sl : Array (Option Value)} (l : K.lookup a = some ⟨.type "tuple", od, .seq its n, sl⟩) (r : KRels K mg ds its.toList) (hz : ds.length ≤ 1000) : KRel K mg (.ktp ds) (.ref a) := by
  obtain ⟨vs, rs, rvs⟩ := r.ex
  refine ⟨.ref a, rfl, fun wd => ?_⟩
  simp only [VR]
  refine ⟨a, vs, rfl, ⟨_, its, n, l, rfl, rfl, ?_, rs⟩, rvs wd⟩
  have h1 : vs.length = its.toList.length := rs.length
  have h2 := (rvs wd).len
  have h3 : its.toList.length = its.size := Array.length_toList
  rw [sizeLine_eq]
  omega
theorem kcon_mk {K : PySem.W.Frag} {h : Heap} {mg : Str → Option Value} {x : Str} {d : D} {u : Value} (X : K.In h) (G : h.Ns mainGlobals mg) (a : PySem.W.nsIn K mainGlobals x = some (some u)) (r : KRel K mg d u) : KCon K mg x d := by
  obtain ⟨v, rv, q⟩ := r
  exact ⟨v, u, PySem.W.mg_of X G a, rv, q⟩
/-- the entries of a written dict -/
def EntsOk (K : PySem.W.Frag) (mg : Str → Option Value) (P : Params) : List DictEntry → List (Str × D) → Prop
  | [], [] => True
  | e :: es, p :: kvs => ((∃ t, e.key = .str p.1 t) ∧ e.hash = PyData.keyHash P p.1 ∧ KRel K mg p.2 e.val) ∧ EntsOk K mg P es kvs
  | _, _ => False
theorem EntsOk.lit {K : PySem.W.Frag} {mg : Str → Option Value} {P : Params} : ∀ {es : List DictEntry} {kvs : List (Str × D)}, EntsOk K mg P es kvs → PySem.W.KeysLit P es
  | [], [], _ => trivial
  | e :: es, p :: kvs, h => by
    obtain ⟨⟨⟨t, e1⟩, e2, _⟩, r⟩ := h
    exact ⟨⟨p.1, t, e1, e2⟩, r.lit⟩
  | [], _ :: _, h => h.elim
  | _ :: _, [], h => h.elim
theorem EntsOk.find {K : PySem.W.Frag} {mg : Str → Option Value} {P : Params} {z : Str} : ∀ {es : List DictEntry} {kvs : List (Str × D)}, EntsOk K mg P es kvs →
    (es.any (·.refKey) = false) ∧ (match kvs.lookup z with
      | some dv => ∃ e, es.find? (·.key.isStr z) = some e ∧ KRel K mg dv e.val
      | none => es.find? (·.key.isStr z) = none)
  | [], [], _ => ⟨rfl, rfl⟩
  | e :: es, p :: kvs, h => by
    obtain ⟨⟨⟨t, e1⟩, e2, q⟩, r⟩ := h
    obtain ⟨f1, f2⟩ := EntsOk.find (z := z) r
    have ek : e.key.isStr z = (p.1 == z) := by rw [e1]; rfl
    refine ⟨?_, ?_⟩
    · rw [List.any_cons, f1, Bool.or_false]
      obtain ⟨hh, kk, vv⟩ := e
      simp only at e1
      subst e1
      rfl
    · rw [List.lookup_cons, List.find?_cons, ek]
      by_cases hz : z = p.1
      · subst hz
        simp only [beq_self_eq_true]
        exact ⟨e, rfl, q⟩
      · rw [show (z == p.1) = false by simpa using hz, show (p.1 == z) = false by simpa using fun h => hz h.symm]
        exact f2
  | [], _ :: _, h => h.elim
  | _ :: _, [], h => h.elim
theorem kdat_mk {K : PySem.W.Frag} {w : World} {h : Heap} {mg : Str → Option Value} {x : Str} {d : Addr} {es : Array DictEntry} {n : Nat} {kvs : List (Str × D)} (X : K.In h) (G : h.Ns mainGlobals mg) (a : PySem.W.nsIn K mainGlobals x = some (some (.ref d)))
    (l : K.lookup d = some ⟨.type "dict", none, .dict es n, #[]⟩) (low : (d == sysModules) = false) (r : EntsOk K mg w.params es.toList kvs) : KDat K w mg x kvs := by
  refine ⟨d, es, n, PySem.W.mg_of X G a, ⟨l, r.lit, low⟩, fun z => ?_⟩
  have f := r.find (z := z)
  unfold PySem.W.nsIn
  rw [l]
  cases e : kvs.lookup z with
  | some dv =>
    rw [e] at f
    obtain ⟨_, e0, e1, v, rv, q⟩ := f
    exact ⟨e0.val, v, by simp only [e1], rv, q⟩
  | none =>
    rw [e] at f
    simp only [f.2, f.1]
    rfl
def parK (i j : Nat) : List D → Env → Hd → Fl
  | [a, b], ρ, h => .nx ((ρ.set i (some a)).set j (some b)) h
  | _, _, _ => .bad
def mPar (i j : Nat) (ma : MA) : MS := liftR ma (parK i j)
section
variable {X : Cx} {W : WX} {a b : Expr} {mas : MA} {x y : Str} {px py pt pt2 pos : Pos} {kt k2 : Nat}
theorem s_par (i j : Nat) (hN : X.N.Nodup) (ha : SA X W [a, b] mas) (hc : X.calm = true := by rfl) (hi : X.N[i]? = some x := by rfl) (hj : X.N[j]? = some y := by rfl) (hij : i ≠ j := by decide)
    (hx : X.env.scope.names.lookup x = some .local := by rfl) (hy : X.env.scope.names.lookup y = some .local := by rfl) (hw : swappedStores [.Tuple [.Name x px, .Name y py] kt pt] (.Tuple [a, b] k2 pt2) X.env = pure (some [x, y]) := by rfl)
    (hs : swapsWithSole [.Tuple [.Name x px, .Name y py] kt pt] (.Tuple [a, b] k2 pt2) pos.line X.env = pure false := by rfl) : SS X W (.Assign [.Tuple [.Name x px, .Name y py] kt pt] (.Tuple [a, b] k2 pt2) pos) (mPar i j mas) :=
  PS.imp (ps_par hc hN hi hj hij hx hy ha hw hs) fun Dn σ H q => by
  refine (tS.lift q).mono fun vs H1 ⟨w1, ρ, h1, ds, e1, s1, r1, p1⟩ => ?_
  unfold parK at p1
  split at p1
  · rename_i da db
    simp only [VRs] at r1
    obtain ⟨v, r2, rfl, rv, u, r3, rfl, ru, rfl⟩ := r1
    exact ⟨v, u, rfl, p1.nx ((e1.set i rv).set j ru) s1⟩
  · exact p1.elim
def parKK (i j : Nat) (ρ : Env) : Res (List D) → Fl
  | .ok ds h => parK i j ds ρ h
  | .exc x h => .exc x ρ h
  | .bad => .bad
@[simp] theorem parKK_ok (i j : Nat) (ρ : Env) (a b : D) (h : Hd) : parKK i j ρ (.ok [a, b] h) = .nx ((ρ.set i (some a)).set j (some b)) h := rfl
@[simp] theorem mPar_k (i j : Nat) (ma : MA) (ρ : Env) (h : Hd) : mPar i j ma ρ h = parKK i j ρ (ma ρ h) := by unfold mPar liftR parKK; cases ma ρ h <;> rfl
end
end DD
namespace DD
open PySem PySem.Spec L2 PyProof.Rows
def TAsk (K : PySem.W.Frag) (CM CS CN : Addr) : (XK → Hp → VK → Prop) → Hp → VK → Prop := fun tl H Q => ∀ p0, H p0 = none →
  tl (fun cls d H' => PySem.W.exmOne K cls (.ref CM) = some false ∧ PySem.W.exmAny K cls [.ref CS, .ref CN] = some true ∧ d = none ∧ ∃ C t, cls = .ref C ∧ CalK K C t ∧ ∀ p, H' p = none → Q (.ref p) (upd H' p (.tup [.non, .str t]))) (upd H p0 (.tup [.non, .str ""]))
    (fun v H' => ∀ p, H' p = none → Q (.ref p) (upd H' p (.tup [v, .str ""])))
abbrev askN : List Str := ["_law_ask_here", "_law_answer", "_law_why", "e"]
theorem ask_gives {X : Cx} {q : Str} {sg : Scope} {g CM CS CN : Addr} {cdg : Value} {b1 : Stmt} {su1 : List Stmt} {j1 j2 k1 k2 k3 k4 : Nat} {p1 p2 p3 p4 p5 p6 p7 p8 p9 p10 p11 p12 p13 p14 p15 p16 p17 p18 p19 p20 p21 p22 p23 p24 p25 p26 p27 : Pos}
    (l0 : sg.names.lookup ("_law_ask_here" : Str) = some .local) (l1 : sg.names.lookup ("_law_answer" : Str) = some .local) (l2 : sg.names.lookup ("_law_why" : Str) = some .local) (l3 : sg.names.lookup ("e" : Str) = some .local)
    (g1 : sg.names.lookup ("Missing" : Str) = some .globalImplicit) (g2 : sg.names.lookup ("StandError" : Str) = some .globalImplicit) (g3 : sg.names.lookup ("NothingLeft" : Str) = some .globalImplicit)
    (m1 : X.mg "Missing" = some (.ref CM)) (m2 : X.mg "StandError" = some (.ref CS)) (m3 : X.mg "NothingLeft" = some (.ref CN))
    (hw : ∀ (L : Addr), swappedStores [.Tuple [.Name "_law_answer" p1, .Name "_law_why" p2] k1 p3] (.Tuple [.Constant .none j1 p4, .Constant (.str "") j2 p5] k2 p6) (envOfC "_law_ask" sg L g cdg) = pure none)
    (hs : ∀ (L : Addr), swapsWithSole [.Tuple [.Name "_law_answer" p1, .Name "_law_why" p2] k1 p3] (.Tuple [.Constant .none j1 p4, .Constant (.str "") j2 p5] k2 p6) p7.line (envOfC "_law_ask" sg L g cdg) = pure false)
    (ht : ∀ (L : Addr), ∃ pl, eval (.Call (.Attribute (.Name "e" p18) "called" p19) [] [] p20) (envOfC "_law_ask" sg L g cdg) = (do
      let ov ← eval (.Name "e" p18) (envOfC "_law_ask" sg L g cdg)
      standAt p19.atName
      let (f, first) ← holding [ov] (getMethod ov "called" pl)
      callWith p20 f first (backTo p20 (starEach [] (envOfC "_law_ask" sg L g cdg))) (backToKw p20 (keywordEach [] (envOfC "_law_ask" sg L g cdg))))) :
    AskTo X askN "_law_ask" sg g cdg [.Assign [.Tuple [.Name "_law_answer" p1, .Name "_law_why" p2] k1 p3] (.Tuple [.Constant .none j1 p4, .Constant (.str "") j2 p5] k2 p6) p7,
      .Try [.Assign [.Name "_law_answer" p8] (.Call (.Name "_law_ask_here" p9) [] [] p10) p11]
        [.ExceptHandler (some (.Name "Missing" p12)) (some "e") (b1 :: su1) p13,
          .ExceptHandler (some (.Tuple [.Name "StandError" p14, .Name "NothingLeft" p15] k3 p16)) (some "e") [.Assign [.Name "_law_why" p17] (.Call (.Attribute (.Name "e" p18) "called" p19) [] [] p20) p21] p22] [] [] p23,
      .Return (some (.Tuple [.Name "_law_answer" p24, .Name "_law_why" p25] k4 p26)) p27] "_law_ask_here" q (TAsk X.K CM CS CN) := by
  intro f c' s H Q tl mono room act hc h
  have nd : askN.Nodup := by decide
  obtain ⟨pl, ht⟩ := ht s.heap.objs.size
  refine ⟨_, pss_cons (ps_asg (X := (inAsk X askN "_law_ask" sg g cdg s H).nox) (pe_tup (pa_cons pe_non (pa_cons pe_str pa_nil))) (pg_tup rfl (pgs_cons (pg_name (i := 1) nd rfl (.inl l1)) (pgs_cons (pg_name (i := 2) nd rfl (.inl l2)) pgs_nil))) (hs _) (hw _))
    (pss_cons (ps_two (X := (inAsk X askN "_law_ask" sg g cdg s H).nox) (i := 3) (c1 := .ref CM) (c2 := .ref CS) (c3 := .ref CN) rfl rfl nd rfl l3 ⟨g1, by decide, .inl m1⟩ ⟨g2, by decide, .inl m2⟩ ⟨g3, by decide, .inl m3⟩
      (tb := fun W Dn σ H => ∃ E : XK, σ[0]? = some (some (.ref f)) ∧ H c' = some (LamX.CodeO c' q) ∧ (∀ cls d H', E cls d H' → W cls d σ H') ∧ tl E H (fun v H1 => Dn.nx (σ.set 1 (some v)) H1))
      (ts := fun a cls d Dn σ H => σ[3]? = some (some (.ref a)) ∧ d = none ∧ ∃ C t, cls = .ref C ∧ CalK X.K C t ∧ Dn.nx (σ.set 2 (some (.str t))) H)
      (fun W pn xe tk _ => ?_) (fun a oe cls d pn hz hf => ?_))
    (pss_one (ps_ret (pe_tup (pa_cons (pe_var (i := 1) rfl (.inl l1)) (pa_cons (pe_var (i := 2) rfl (.inl l2)) pa_nil)))))), ?_⟩
  · exact ⟨fun pins s' σ H' Dn I ⟨E, a1, a2, a3, a4⟩ => (pss_one (ps_set (i := 1) nd rfl (.inl l1) (act E W pn xe _ _ tk))).run pins s' σ H' Dn I ⟨a1, a2, a3, a4⟩⟩
  · exact ⟨fun pins s' σ H' Dn I ⟨a1, a2, C, t, a3, a4, a5⟩ => (pss_one (ps_set (i := 2) nd rfl (.inl l2) (pe_called (pl := pl) hz hf room.depth (pe_var (i := 3) rfl (.inl l3)) ht))).run pins s' σ H' Dn I ⟨_, a1, rfl, a2, C, t, a3, a4, a5⟩⟩
  · have z2 : 2 ≤ sizeLine := by rw [sizeLine_eq]; omega
    refine ⟨z2, fun p0 hp0 => ⟨p0, [.non, .str ""], rfl, .inl (.inl upd_same), rfl, .non, [.str ""], rfl, .str "", [], rfl, rfl, _, rfl, (upd_ne (ne_of_none hc hp0)).trans hc, ?_, mono _ _ _ _ ?_ (h p0 hp0)⟩⟩
    · exact fun cls d H' ⟨e1, e2, e3, C, t, e4, e5, e6⟩ => ⟨e1, e2, fun a na => ⟨rfl, e3, C, t, e4, e5, _, rfl, _, rfl, z2, e6⟩⟩
    · exact fun v H' q => ⟨_, rfl, _, rfl, z2, q⟩
open Classical
theorem codeHd_one {K : PySem.W.Frag} {c P P' : Addr} (a : PySem.W.codeHdIn K c P = true) (b : PySem.W.codeHdIn K c P' = true) : P = P' := by
  unfold PySem.W.codeHdIn at a b
  split at a
  · rename_i vs sl hk
    split at b
    · rename_i vs' sl' hk'
      rw [hk] at hk'; cases hk'
      simp only [Bool.and_eq_true] at a b
      have a1 := a.1.1.1.1.1
      have b1 := b.1.1.1.1.1
      split at a1
      · rename_i Q h11
        rw [h11] at b1
        exact (beq_iff_eq.mp a1).symm.trans (beq_iff_eq.mp b1)
      · cases a1
    · cases b
  · cases a
theorem lawTab_one {K : PySem.W.Frag} {mg : Str → Option Value} {P P' : Addr} (a : lawTab K mg P) (b : lawTab K mg P') : P = P' := by
  obtain ⟨_, f, c, o, fd, a1, a2, a3, a4, a5⟩ := a
  obtain ⟨_, f', c', o', fd', b1, b2, b3, b4, b5⟩ := b
  rw [a1] at b1; cases b1
  rw [a2] at b2; cases b2
  rw [a3] at b3; cases b3
  rw [a4] at b4; cases b4
  exact codeHd_one a5 b5
section
variable {c : Ct} {w : Wd} {h : Hd} {H H1 : Hp} {P : Addr}
theorem SR.tabs (s : SR c w h H) (l : lawTab c.K c.mg P) : LamX.Tabs [(P, lamQ)] H := fun p hp => by
  have e : p = (P, lamQ) := by simpa using hp
  subst e
  obtain ⟨⟨ps, e1, e2, e3⟩, _⟩ := s.tab.tb P l
  exact ⟨ps, e1, e2, fun pos cv k => let ⟨b, q1, q2⟩ := e3 pos cv k; ⟨b, q1, s.F _ _ q2⟩⟩
/-- what lies at a cell -/
theorem SR.cellO (s : SR c w h H) {r : Nat} {a : Addr} (e : w.φ r = some a) : ∃ o, H a = some o ∧ plainO o := by
  obtain ⟨lt, _⟩ := s.dom r a e
  have q : h[r]? = some h[r] := List.getElem?_eq_getElem lt
  by_cases g : h[r] = .gone
  · rw [g] at q
    obtain ⟨o, eo, p⟩ := s.ng r a q e
    exact ⟨o, s.F _ _ eo, p⟩
  obtain ⟨b, q1, q2, q3, q4⟩ := s.cell r _ q g
  rw [e] at q1; cases q1
  obtain ⟨o, eo⟩ := q4.some g
  exact ⟨o, eo, q4.plain g eo⟩
noncomputable def Wd.grow (w : Wd) (H1 : Hp) : Wd := { w with F := fun b => match w.F b with
  | some o => some o
  | none => if H1 b = some (LamX.CodeO b lamQ) then some (LamX.CodeO b lamQ) else none }
theorem grow_some {b : Addr} {o : HO} (e : (w.grow H1).F b = some o) : w.F b = some o ∨ w.F b = none ∧ H1 b = some (LamX.CodeO b lamQ) ∧ o = LamX.CodeO b lamQ := by
  have e' : (match w.F b with | some o => some o | none => if H1 b = some (LamX.CodeO b lamQ) then some (LamX.CodeO b lamQ) else none) = some o := e
  cases q : w.F b with
  | some o' => rw [q] at e'; exact .inl e'
  | none =>
    rw [q] at e'
    by_cases k : H1 b = some (LamX.CodeO b lamQ)
    · have e2 := (if_pos k).symm.trans e'
      cases e2
      exact .inr ⟨rfl, k, rfl⟩
    · have e2 := (if_neg k).symm.trans e'
      cases e2
theorem grow_old {b : Addr} {o : HO} (e : w.F b = some o) : (w.grow H1).F b = some o := by
  show (match w.F b with | some o => some o | none => if H1 b = some (LamX.CodeO b lamQ) then some (LamX.CodeO b lamQ) else none) = some o
  rw [e]
theorem grow_new {b : Addr} (e : w.F b = none) (k : H1 b = some (LamX.CodeO b lamQ)) : (w.grow H1).F b = some (LamX.CodeO b lamQ) := by
  show (match w.F b with | some o => some o | none => if H1 b = some (LamX.CodeO b lamQ) then some (LamX.CodeO b lamQ) else none) = _
  rw [e]; exact if_pos k
theorem grow_none {b : Addr} (e : w.F b = none) (k : H1 b ≠ some (LamX.CodeO b lamQ)) : (w.grow H1).F b = none := by
  show (match w.F b with | some o => some o | none => if H1 b = some (LamX.CodeO b lamQ) then some (LamX.CodeO b lamQ) else none) = none
  rw [e]; exact if_neg k
theorem SR.grow (s : SR c w h H) (l : lawTab c.K c.mg P) (eN : LamX.ExtN H H1) (T1 : LamX.Tabs [(P, lamQ)] H1) : Le w (w.grow H1) ∧ SR c (w.grow H1) h H1 := by
  have le : Le w (w.grow H1) := ⟨⟨fun b o e => grow_old e, fun _ _ q => q⟩, rfl⟩
  have keepF : ∀ b o, w.F b = some o → H1 b = some o := fun b o e => eN b o (s.F b o e) (s.tab.nF b o e)
  have keepP : ∀ b o, w.P b = some o → H1 b = some o := fun b o e => eN b o (s.P b o e) (s.tab.nP b o e).1.1
  refine ⟨le, ⟨fun b o e => ?_, keepP, fun b o e => ⟨?_, (s.pin b o e).2⟩, fun r z q g => ?_, s.inj, fun r a e => ?_, ⟨fun P' l' => ?_, fun b o e => ?_, s.tab.nP⟩, fun r a q e => let ⟨o, q1, p⟩ := s.ng r a q e; ⟨o, le.F _ _ q1, p⟩⟩⟩
  · rcases grow_some e with e | ⟨_, k, e⟩
    · exact keepF b o e
    · rw [e]; exact k
  · refine grow_none (s.pin b o e).1 fun k => ?_
    rw [keepP b o e] at k
    cases k
    exact (s.tab.nP b _ e).1.2 _ _ rfl
  · obtain ⟨a, q1, q2, q3, q4⟩ := s.cell r z q g
    obtain ⟨o, eo⟩ := q4.some g
    have pl := q4.plain g eo
    have e1 := eN a o eo pl.1
    refine ⟨a, q1, grow_none q2 fun k => ?_, q3, q4.le le (e1.trans eo.symm)⟩
    rw [e1] at k
    cases k
    exact pl.2 _ _ rfl
  · obtain ⟨o, eo, pl⟩ := s.cellO e
    exact ⟨(s.dom r a e).1, o, eN a o eo pl.1⟩
  · cases lawTab_one l l'
    obtain ⟨ps, e1, e2, e3⟩ := T1 (P, lamQ) (by simp)
    obtain ⟨_, q1, q2, q3⟩ := s.tab.tb P l
    refine ⟨⟨ps, e1, e2, fun pos cv k => ?_⟩, grow_none q1 fun k => ?_, q2, q3⟩
    · obtain ⟨b, r1, r2⟩ := e3 pos cv k
      refine ⟨b, r1, ?_⟩
      cases q : w.F b with
      | none => exact grow_new q r2
      | some o =>
        have := keepF b o q
        rw [r2] at this; cases this
        exact grow_old q
    · have k' : H1 P = some (LamX.CodeO P lamQ) := k
      have e1' : H1 P = some (.tbl ps) := e1
      rw [k'] at e1'
      exact LamX.codeO_ne ps (Option.some.inj e1')
  · rcases grow_some e with e | ⟨_, k, e⟩
    · exact s.tab.nF b o e
    · intro ps z
      rw [e] at z
      exact LamX.codeO_ne ps z
end
structure AskK (K : PySem.W.Frag) (mg : Str → Option Value) (cl : List (Str × Str)) (CM CS CN : Addr) : Prop where
  one : ∀ x t C, cl.lookup x = some t → mg x = some (.ref C) → PySem.W.exmOne K (.ref C) (.ref CM) = some false ∧ PySem.W.exmAny K (.ref C) [.ref CS, .ref CN] = some true ∧ CalK K C t
structure AskAt (K : PySem.W.Frag) (mg : Str → Option Value) (st : Stmt) (g : Addr) (fd : FuncData) (cl : List (Str × Str)) : Prop where
  F : DefAt K mg "_law_ask" st ["_law_ask_here"] g fd
  gives : ∀ (X : Cx) (q : Str) (cdg : Value), X.mg = mg → X.K = K → ∃ CM CS CN, AskTo X askN "_law_ask" (defScope st) g cdg (defBody st) "_law_ask_here" q (TAsk K CM CS CN) ∧ AskK K mg cl CM CS CN
  sc : FnScope askN ["_law_ask_here"] (defScope st)
  v : Vis (defScope st) "_law_ask_here"
def askR (cl : List (Str × Str)) : Res D → Res D
  | .ok d h => .ok (.tup [d, .str ""]) h
  | .exc x h => match cl.lookup x.c, x.ns with
    | some t, [] => .ok (.tup [.non, .str t]) h
    | _, _ => .bad
  | .bad => .bad
def mAsk (cl : List (Str × Str)) (mb : ME) : ME := fun ρ h => askR cl (mb ρ h)
/-- the law's own code and table -/
def LawC (K : PySem.W.Frag) (mg : Str → Option Value) (base : Heap) (cdv : Value) : Prop := ∃ c P, lawTab K mg P ∧ cdv = .ref c ∧ LamX.TabB base mg c P
theorem tE_mono {c : Ct} {W : WX} {m : ME} {σ : L2.St} {H : Hp} {Q Q' : VK} (i : ∀ v H', Q v H' → Q' v H') (q : tE c W m σ H Q) : tE c W m σ H Q' := tP.mono q i
def spT (K : PySem.W.Frag) (P : Addr) : Sp := fun vs H Q _ => ∃ (a : Addr) (ns : List Int), vs = [.ref a] ∧ SqL K H a (ns.map V.int) ∧ ns.length ≤ 63 ∧ H P = some (.tbl #[]) ∧ ∀ H', Q (.bl true) H'
def clsMeth (s : Stmt) (j : Nat) : Stmt := match s with
  | .ClassDef _ _ _ b _ _ _ _ _ _ _ => b.getD j (.Pass ⟨0, 0, 0, 0⟩)
  | _ => .Pass ⟨0, 0, 0, 0⟩
section
variable {K : PySem.W.Frag} {mg : Str → Option Value}
theorem say_mk {st : Stmt} {f : Addr} {t nm qual : Str} {oc kV doc pm cdv ct : Value} {od an : Option Addr} {osl : Array (Option Value)} (lk : K.lookup f = some ⟨oc, od, .func (PySem.W.fnOf nm qual (defArgs st) (defBody st) (defScope st) .none kV doc pm an cdv ct), osl⟩)
    (hcd : PySem.W.codeIn K cdv qual = true) (kp : PySem.W.keepIn K (.ref f) = true) (fn : PySem.W.isFn K (.ref f) = true) (hb : ∃ j p p', defBody st = [.Return (some (.Constant (.str t) j p)) p']) (sc : FnScope ["self"] ["self"] (defScope st))
    (bd : ∀ us : List Value, us.length = 1 → bindArgs (PySem.W.fnOf nm qual (defArgs st) (defBody st) (defScope st) .none kV doc pm an cdv ct) ⟨us, []⟩ = pure ((["self"] : List Str).zip us)) : SayK K f t := by
  obtain ⟨j, p, p', e⟩ := hb
  rw [e] at lk bd
  exact ⟨⟨nm, qual, defArgs st, j, p, p', defScope st, .none, kV, doc, pm, cdv, ct, oc, an, od, osl, lk, hcd, sc, .all bd⟩, kp, fn⟩
theorem AskK.nil {CM CS CN : Addr} : AskK K mg [] CM CS CN := ⟨fun _ _ _ h _ => by cases h⟩
theorem AskK.cons {x t : Str} {C CM CS CN : Addr} {cl : List (Str × Str)} (m : mg x = some (.ref C)) (x1 : PySem.W.exmOne K (.ref C) (.ref CM) = some false) (x2 : PySem.W.exmAny K (.ref C) [.ref CS, .ref CN] = some true) (k : CalK K C t) (r : AskK K mg cl CM CS CN) :
    AskK K mg ((x, t) :: cl) CM CS CN := ⟨fun y u D h hm => by
  rw [List.lookup_cons] at h
  split at h
  · rename_i e
    cases h
    rw [beq_iff_eq.mp e, m] at hm
    cases hm
    exact ⟨x1, x2, k⟩
  · exact r.one y u D h hm⟩
end
@[simp] theorem mAsk_k (cl : List (Str × Str)) (mb : ME) (ρ : Env) (h : Hd) : mAsk cl mb ρ h = askR cl (mb ρ h) := rfl
@[simp] theorem askR_ok (cl : List (Str × Str)) (d : D) (h : Hd) : askR cl (.ok d h) = .ok (.tup [d, .str ""]) h := rfl
theorem askR_exc {cl : List (Str × Str)} {x t : Str} {h : Hd} (e : cl.lookup x = some t) : askR cl (.exc ⟨x, [], []⟩ h) = .ok (.tup [.non, .str t]) h := by
  unfold askR
  simp only [e]
@[simp] theorem mRaise_k (x : Str) (ρ : Env) (h : Hd) : mRaise x ρ h = .exc ⟨x, [], []⟩ ρ h := rfl
end DD
namespace RZ
open PySem PySem.Spec PyProof.Rows L2
/-- a text's signs and the items of the tuple at b, in new pairs -/
def Itst (K : PySem.W.Frag) (x : Str) (b : Addr) : It :=
  ⟨fun i H => ∃ (ys : List V) (y : V), SqT K H b ys ∧ ys[i]? = some y ∧ i < x.cps.size,
    fun i H v H' => ∃ (T : Addr) (c : Nat) (y : V), v = .ref T ∧ H T = none ∧ H' = upd H T (.tup [.str ⟨#[c]⟩, y]) ∧ x.cps[i]? = some c ∧ ∀ ys, SqT K H b ys → ys[i]? = some y,
    fun i H => ∃ ys : List V, SqT K H b ys ∧ (i = x.cps.size ∨ i = ys.length) ∧ i ≤ x.cps.size ∧ i ≤ ys.length⟩
theorem turn_zipS {P : Program} {w : World} {K : PySem.W.Frag} {elts : List Expr} {kk : Nat} {tpos : Pos} {x : Str} {t : Tok} {b z TI TO i1 i2 : Addr} (D : ZipSep2 z TI TO i1 i2 [i1] [i2, b]) (hbi : b ≠ i2) :
    Turn P w K (.Tuple elts kk tpos) (Itst K x b) [z, TI, TO, i1, i2] z (fun i h => IsZip h z TI TO .none ∧ IsPair h TI (.ref i1) (.ref i2) ∧ (∃ x y, IsPair h TO x y) ∧ h.IsStrIter i1 (strIterType x) x t i ∧ h.IsTupleIter i2 b i) where
  mem := by simp
  obj := fun i h st c hc => by
    obtain ⟨hz, hTI, ⟨x, y, hTO⟩, ⟨o1, e1, _, d1⟩, ⟨o2, e2, _, d2⟩⟩ := st
    have e' : c = z ∨ c = TI ∨ c = TO ∨ c = i1 ∨ c = i2 := by simpa using hc
    rcases e' with q | q | q | q | q
    · rw [q]; exact ⟨_, hz, fun v q => nomatch q⟩
    · rw [q]; exact ⟨_, hTI, fun v q => nomatch q⟩
    · rw [q]; exact ⟨_, hTO, fun v q => nomatch q⟩
    · rw [q]; exact ⟨o1, e1, fun v q => by rw [d1] at q; cases q⟩
    · rw [q]; exact ⟨o2, e2, fun v q => by rw [d2] at q; cases q⟩
  keep := fun i h h' st k => by
    obtain ⟨hz, hTI, ⟨x, y, hTO⟩, ⟨o1, e1, r1⟩, h2⟩ := st
    exact ⟨k z (by simp) _ hz, k TI (by simp) _ hTI, ⟨x, y, k TO (by simp) _ hTO⟩, ⟨o1, k i1 (by simp) _ e1, r1⟩, h2.at fun o q => k i2 (by simp) o q⟩
  item := by
    intro X hP hw hK hc i pins s σ H E I hf st hg
    subst hP hw hK
    obtain ⟨hz, hTI, ⟨x0, y0, hTO⟩, h1, h2⟩ := st
    obtain ⟨ys, y, hqy, hy, hlt⟩ := hg
    obtain ⟨its2, rv2, p2, _⟩ := I.tuple hqy
    obtain ⟨u2, hu2, ru2⟩ := rv2.get hy
    have hh := I.ok.hd hc
    have hzl : z < s.heap.objs.size := Heap.lt_size hz
    have hlt2 : i < its2.toArray.size := by
      have h1 := rv2.length
      have h2 : i < ys.length := (List.getElem?_eq_some_iff.mp hy).1
      simp; omega
    refine wpAny_pyNext_zipD2_item (i := i) (St1 := fun i h => h.IsStrIter i1 (strIterType x) x t i) (St2 := fun i h => h.IsTupleIter i2 b i ∧ h.IsTuple b its2.toArray) D (Draws.text (A := X.A.in1) hh i1 x t) (Draws.tuple (A := X.A.in1) hh i2 b hbi its2.toArray) hz hTI hTO h1 ⟨h2, p2⟩ hlt hlt2 fun x1 x2 h' tk g1 g2 z' TO' h1' h2' hT hsz hk => ?_
    obtain ⟨c, uc, hcx, rfl⟩ := g1
    refine ⟨_, rfl, wpAny_letOwnedTupleGo_zip (s := { s with heap := h', toks := tk }) z' fun h'' z'' sb => ?_⟩
    have hT2 : h''.get? s.heap.objs.size = some { cls := .type "tuple", data := .seq #[.str ⟨#[c]⟩ uc, x2] } := (sb.2 _ (Nat.ne_of_gt hzl)).trans hT
    have ex2 : x2 = u2 := by
      have q : its2.toArray[i]? = some x2 := g2
      have q' : its2[i]? = some x2 := by simpa using q
      rw [hu2] at q'; exact (Option.some.inj q').symm
    subst ex2
    have new : ObjOk X.prog X.w (upd H s.heap.objs.size (.tup [.str ⟨#[c]⟩, y])) h'' s.heap.objs.size (.tup [.str ⟨#[c]⟩, y]) :=
      ⟨by show 2 ≤ sizeLine; decide, [.str ⟨#[c]⟩ uc, x2], .cons ⟨uc, rfl⟩ (.cons ru2 .nil), ⟨_, hT2, rfl, _, rfl⟩⟩
    have I1 : Inv X pins σ (upd H s.heap.objs.size (.tup [.str ⟨#[c]⟩, y])) { s with heap := h'', toks := tk } :=
      I.turnedNew (t' := tk) (ch := [z, TI, TO, i1, i2]) (fun c o hb q => (sb.2 c (fun q' => hb (by simp [q']))).trans (hk c o (fun q' => hb (by simp [q'])) (fun q' => hb (by simp [q'])) (fun q' => hb (by simp [q'])) (fun q' => hb (by simp [q'])) q)) hf (Nat.le_refl _) new
    refine ⟨.ref s.heap.objs.size, _, I1, rfl, ⟨_, c, y, rfl, I.hok.fresh (Nat.le_refl _), rfl, hcx, fun l hl => by rw [I.tuple_inj hl hqy]; exact hy⟩, ⟨z'', ?_, ⟨.str ⟨#[c]⟩ uc, x2, ?_⟩, ?_, ?_⟩, fun c hcm => ?_⟩
    · exact (sb.2 _ D.TIz).trans (hk _ _ D.TIz D.TITO D.TIi1 D.TIi2 hTI)
    · exact (sb.2 _ D.TOz).trans TO'
    · obtain ⟨o1, e1, r1⟩ := h1'
      exact ⟨o1, (sb.2 _ D.zi1.symm).trans e1, r1⟩
    · exact h2'.1.at fun o q => (sb.2 _ D.zi2.symm).trans q
    · have hlt : c < s.heap.objs.size := by
        have e' : c = z ∨ c = TI ∨ c = TO ∨ c = i1 ∨ c = i2 := by simpa using hcm
        rcases e' with q | q | q | q | q
        · rw [q]; exact hzl
        · rw [q]; exact Heap.lt_size hTI
        · rw [q]; exact Heap.lt_size hTO
        · rw [q]; obtain ⟨_, e1, _⟩ := h1; exact Heap.lt_size e1
        · rw [q]; obtain ⟨_, e2, _⟩ := h2; exact Heap.lt_size e2
      rw [upd_ne (Nat.ne_of_lt hlt)]
      exact (hf c hcm).1
  done := by
    intro X hP hw hK hc i pins s σ H E I hf st hg
    subst hP hw hK
    obtain ⟨hz, hTI, ⟨x0, y0, hTO⟩, h1, h2⟩ := st
    obtain ⟨ys, hqy, hend, hl1, hl2⟩ := hg
    obtain ⟨its2, rv2, p2, _⟩ := I.tuple hqy
    have l2 := rv2.length
    have hh := I.ok.hd hc
    have e2 : its2.toArray.size = ys.length := by simp; omega
    exact wpAny_pyNext_zipD2_end (i := i) (St1 := fun i h => h.IsStrIter i1 (strIterType x) x t i) (St2 := fun i h => h.IsTupleIter i2 b i ∧ h.IsTuple b its2.toArray) D (Draws.text (A := X.A.in1) hh i1 x t) (Draws.tuple (A := X.A.in1) hh i2 b hbi its2.toArray) hz hTI hTO h1 ⟨h2, p2⟩ hl1 (by omega) (by omega) fun h' tk hk => ⟨rfl, I.turnedL (t' := tk) (ch := [z, TI, TO, i1, i2]) (fun c o hb q =>
      hk c o (fun q' => hb (by simp [q'])) (fun q' => hb (by simp [q'])) (fun q' => hb (by simp [q'])) (fun q' => hb (by simp [q'])) q) hf⟩
  self := fun A i s Q E st h => wpAny_pyIter_zip st.1 h
theorem sep5 {n b : Nat} (h : b < n) : ZipSep2 (n + 4) (n + 2) (n + 3) n (n + 1) [n] [n + 1, b] := by
  have a1 : n + 2 ≠ n + 4 := by omega
  have a2 : n + 3 ≠ n + 4 := by omega
  have a3 : n + 2 ≠ n + 3 := by omega
  have a4 : n + 2 ≠ n := by omega
  have a5 : n ∈ [n] := by simp
  have a6 : n + 4 ∉ [n] := by simp
  have a7 : n + 3 ∉ [n] := by simp
  have a8 : n + 2 ≠ n + 1 := by omega
  have a9 : n + 1 ∈ [n + 1, b] := by simp
  have b1 : n + 4 ∉ [n + 1, b] := by simp; omega
  have b2 : n + 3 ∉ [n + 1, b] := by simp; omega
  have b3 : n ∉ [n + 1, b] := by simp; omega
  have b4 : n + 1 ∉ [n] := by simp
  exact ⟨a1, a2, a3, a4, a5, a6, a7, a8, a9, b1, b2, b3, b4⟩
def iZipS (K : PySem.W.Frag) (ta : TA) : TI := fun σ H R => ta σ H fun vs H1 => ∃ (x : Str) (b : Addr) (ys : List V), vs = [.str x, .ref b] ∧ SqT K H1 b ys ∧ R (Itst K x b) H1
theorem pi_zipS {X : Cx} {e e2 : Expr} {ta : TA} {p pos tpos : Pos} {elts : List Expr} {kk : Nat} (hg : Gl X "zip") (hm : X.mg "zip" = none) (ha : PA X [e, e2] ta)
    (hs : starEach [e, e2] X.env = (false, eval e X.env) :: starEach [e2] X.env := by rfl) (hpl : (backTo pos (starEach [e2] X.env)).any (·.1) = false := by rfl) :
    PI X (.Tuple elts kk tpos) (.Call (.Name "zip" p) [e, e2] [] pos) (iZipS X.K ta) := by
  refine ⟨fun pins s σ H R I h => ?_⟩
  refine Call_ (ld_blt I hg hm PyProof.Rows.boot_zip (PyProof.Rows.callWith_type1 (thn (ha.run pos pins s σ H _ I h) fun us s1 ⟨vs, H1, I1, r1, q1⟩ => ?_) hs hpl))
  obtain ⟨x, b, ys, ex, hqy, q⟩ := q1
  subst ex
  cases r1 with
  | cons r rr =>
    cases rr with
    | cons r' rr =>
      cases rr
      obtain ⟨t, rfl⟩ := r
      cases r'
      have fresh5 : ∀ c, c ∈ [s1.heap.objs.size + 4, s1.heap.objs.size + 2, s1.heap.objs.size + 3, s1.heap.objs.size, s1.heap.objs.size + 1] → FpOk X pins H1 c := fun c hcm => by
        have e' : c = s1.heap.objs.size + 4 ∨ c = s1.heap.objs.size + 2 ∨ c = s1.heap.objs.size + 3 ∨ c = s1.heap.objs.size ∨ c = s1.heap.objs.size + 1 := by simpa using hcm
        have hle : s1.heap.objs.size ≤ c := by
          rcases e' with z | z | z | z | z
          · rw [z]; exact Nat.le_add_right _ _
          · rw [z]; exact Nat.le_add_right _ _
          · rw [z]; exact Nat.le_add_right _ _
          · rw [z]; exact Nat.le_refl _
          · rw [z]; exact Nat.le_add_right _ _
        exact I1.fpOk hle (I1.hok.fresh hle)
      obtain ⟨its2, rv2, p2, _⟩ := I1.tuple hqy
      obtain ⟨o2, ho2, _⟩ := id p2
      have hb : b < s1.heap.objs.size := Heap.lt_size ho2
      refine zip_begins2 (begins_text x t) (begins_tuple b its2.toArray) trivial (show s1.heap.IsTuple b its2.toArray from p2) fun h' hz hTI hTO h1 h2 hsz hk => wpAny_pyIter_zip hz ?_
      have I2 : Inv X pins σ H1 { s1 with heap := h' } := I1.kept (t' := s1.toks) hk
      refine ⟨s1.heap.objs.size + 4, [s1.heap.objs.size + 4, s1.heap.objs.size + 2, s1.heap.objs.size + 3, s1.heap.objs.size, s1.heap.objs.size + 1], _, _, H1, rfl, I2, turn_zipS (x := x) (t := t) (sep5 hb) (Nat.ne_of_lt (Nat.lt_succ_of_lt hb)), ⟨hz, hTI, ⟨_, _, hTO⟩, ⟨_, h1, rfl, rfl⟩, ⟨_, h2, rfl, rfl⟩⟩, fresh5, q⟩
end RZ
namespace DD
open PySem PySem.Spec L2 RZ
theorem srcZS {c : Ct} {w : Wd} {x : Str} {b : Addr} {us : List V} {ys : List D} (qb : TpAt c.K w.F b us) (ry : VRs c w ys us) : SrcOk c w ⟨zipD (signs x) ys, fun _ => True⟩ (Itst c.K x b) := by
  have sl : (signs x).length = x.cps.size := by simp [signs]
  refine ⟨fun H => SqT c.K H b us, fun i H v H' => ∃ (T : Addr) (k : Nat) (y : V), v = .ref T ∧ H T = none ∧ H' = upd H T (.tup [.str ⟨#[k]⟩, y]) ∧ x.cps[i]? = some k ∧ ∀ ys, SqT c.K H b ys → ys[i]? = some y,
    ⟨fun i H hi g => ?_, fun H g => ?_, fun i H x H' hi g y => y⟩, fun w2 h2 H2 l s ck => ?_, fun i v H2 H3 w2 h2 hi l s ck y => ?_⟩
  · rw [zipD_len, sl, ry.len] at hi
    have h2 : i < us.length := by omega
    exact ⟨us, us[i], g, List.getElem?_eq_getElem h2, by omega⟩
  · refine ⟨us, g, ?_, ?_, ?_⟩ <;> (rw [zipD_len, sl, ry.len]; omega)
  · exact SqT_le (fun a o q => s.F a o (l.F a o q)) qb
  · have f := fun a o q => s.F a o (l.F a o q)
    obtain ⟨T, k, q, rfl, hn, rfl, y1, y2⟩ := y
    obtain ⟨d2, e2, r2⟩ := ry.get' (y2 _ (SqT_le f qb))
    have e1 : (signs x)[i]? = some (.str ⟨#[k]⟩) := by simp [signs, y1]
    obtain ⟨w3, l3, s3, r3⟩ := new_tup (ds := [.str ⟨#[k]⟩, d2]) (vs := [.str ⟨#[k]⟩, q]) s (.cons (by simp only [VR]) (.one (r2.le0 l.toLe0))) hn
    exact ⟨w3, _, l3, s3, zipD_get e1 e2, r3⟩
def zipXF (h : Hd) : List D → Option Src
  | [.str s, .tup ys] => some ⟨zipD (signs s) ys, fun _ => True⟩
  | ds => zipF h ds
theorem PI.or {X : Cx} {tg e : Expr} {t u : TI} (h : PI X tg e t) (g : PI X tg e u) : PI X tg e (fun σ H R => t σ H R ∨ u σ H R) := ⟨fun pins s σ H R I q => q.elim (h.run pins s σ H R I) (g.run pins s σ H R I)⟩
section
variable {X : Cx} {W : WX} {tg e e2 : Expr} {mas : MA} {p pos tpos : Pos}
theorem i_zipX {elts : List Expr} {kk : Nat} (hm : X.mg "zip" = none) (ha : SA X W [e, e2] mas) (hg : Gl X "zip" := by rfl)
    (hs : starEach [e, e2] X.env = (false, eval e X.env) :: starEach [e2] X.env := by rfl) (hpl : (backTo pos (starEach [e2] X.env)).any (·.1) = false := by rfl) : SI X W (.Tuple elts kk tpos) (.Call (.Name "zip" p) [e, e2] [] pos) (mSrc zipXF mas) := PI.imp (PI.or (i_zip hm ha hg hs hpl) (pi_zipS hg hm ha hs hpl)) fun σ H R q => by
  obtain ⟨w, ρ, h, er, sr, pq⟩ := q
  by_cases hc : ∃ s ys h1, mas ρ h = .ok [.str s, .tup ys] h1
  · refine .inr ?_
    obtain ⟨s, ys, h1, em⟩ := hc
    have pq' : Post (fun w _ s J => SrcOk (Cx.ct X) w s J) (Cx.ct X) w W σ ((mas ρ h).bind fun ds h => optR (zipXF h ds) h) R := pq
    rw [em] at pq'
    refine ⟨w, ρ, h, er, sr, ?_⟩
    rw [em]
    intro vs w1 H1 l r1 s1
    obtain ⟨v, u, rfl, r, r'⟩ := r1.two_inv
    simp only [VR] at r r'
    subst r
    obtain ⟨b, us, rfl, qb, ry⟩ := r'
    have p2 := Post.le l pq'
    exact ⟨s, b, us, rfl, SqT_le s1.F qb, p2 _ w1 H1 (.refl _) (srcZS qb ry) s1⟩
  · refine .inl ⟨w, ρ, h, er, sr, ?_⟩
    have e : mSrc zipXF mas ρ h = mSrc zipF mas ρ h := by
      unfold mSrc
      cases em : mas ρ h with
      | ok ds h1 =>
        show optR (zipXF h1 ds) h1 = optR (zipF h1 ds) h1
        unfold zipXF
        split
        · exact absurd ⟨_, _, _, em⟩ hc
        · rfl
      | _ => rfl
    rw [← e]
    exact pq
end
section
variable {h : Hd} {ρ : Env} {x y : D} {mo ma mb mk mx mv : ME} {mas mks : MA} {mp : MP}
def get1K2 (x : D) : Res D → Res D
  | .ok y h => optR ((dgetF h x y).map (·.getD .non)) h
  | .exc x h => .exc x h
  | .bad => .bad
def get1K (mk : ME) (ρ : Env) : Res D → Res D
  | .ok x h => if isDct h x then get1K2 x (mk ρ h) else .bad
  | .exc x h => .exc x h
  | .bad => .bad
@[simp] theorem get1K2_ok (x y : D) (h : Hd) : get1K2 x (.ok y h) = optR ((dgetF h x y).map (·.getD .non)) h := rfl
@[simp] theorem get1K_ok (x : D) (h : Hd) : get1K mk ρ (.ok x h) = if isDct h x then get1K2 x (mk ρ h) else .bad := rfl
@[simp] theorem mGet1_k (ma mk : ME) (ρ : Env) (h : Hd) : mGet1 ma mk ρ h = get1K mk ρ (ma ρ h) := by
  unfold mGet1 get1K
  cases ma ρ h with
  | ok d h =>
    simp only [Res.bind_ok]
    cases isDct h d with
    | false => rfl
    | true => simp only [if_true]; unfold get1K2; cases mk ρ h <;> rfl
  | _ => rfl
def get2K3 (x y : D) : Res D → Res D
  | .ok z h => optR ((dgetF h x y).map (·.getD z)) h
  | .exc x h => .exc x h
  | .bad => .bad
def get2K2 (mx : ME) (ρ : Env) (x : D) : Res D → Res D
  | .ok y h => get2K3 x y (mx ρ h)
  | .exc x h => .exc x h
  | .bad => .bad
def get2K (mk mx : ME) (ρ : Env) : Res D → Res D
  | .ok x h => if isDct h x then get2K2 mx ρ x (mk ρ h) else .bad
  | .exc x h => .exc x h
  | .bad => .bad
@[simp] theorem get2K3_ok (x y z : D) (h : Hd) : get2K3 x y (.ok z h) = optR ((dgetF h x y).map (·.getD z)) h := rfl
@[simp] theorem get2K2_ok (x y : D) (h : Hd) : get2K2 mx ρ x (.ok y h) = get2K3 x y (mx ρ h) := rfl
@[simp] theorem get2K_ok (x : D) (h : Hd) : get2K mk mx ρ (.ok x h) = if isDct h x then get2K2 mx ρ x (mk ρ h) else .bad := rfl
@[simp] theorem mGet2_k (ma mk mx : ME) (ρ : Env) (h : Hd) : mGet2 ma mk mx ρ h = get2K mk mx ρ (ma ρ h) := by
  unfold mGet2 get2K
  cases ma ρ h with
  | ok d h =>
    simp only [Res.bind_ok]
    cases isDct h d with
    | false => rfl
    | true =>
      simp only [if_true]; unfold get2K2
      cases mk ρ h with
      | ok y h => simp only [Res.bind_ok]; unfold get2K3; cases mx ρ h <;> rfl
      | _ => rfl
  | _ => rfl
def dixK2 (x : D) : Res D → Res D
  | .ok y h => optR ((dgetF h x y).bind id) h
  | .exc x h => .exc x h
  | .bad => .bad
def dixK (mk : ME) (ρ : Env) : Res D → Res D
  | .ok x h => dixK2 x (mk ρ h)
  | .exc x h => .exc x h
  | .bad => .bad
@[simp] theorem dixK2_ok (x y : D) (h : Hd) : dixK2 x (.ok y h) = optR ((dgetF h x y).bind id) h := rfl
@[simp] theorem dixK_ok (x : D) (h : Hd) : dixK mk ρ (.ok x h) = dixK2 x (mk ρ h) := rfl
@[simp] theorem mDIx_k (ma mk : ME) (ρ : Env) (h : Hd) : mDIx ma mk ρ h = dixK mk ρ (ma ρ h) := by
  unfold mDIx dixK
  cases ma ρ h with
  | ok d h => simp only [Res.bind_ok]; unfold dixK2; cases mk ρ h <;> rfl
  | _ => rfl
def kixK (kvs : List (Str × D)) : Res D → Res D
  | .ok (.str z) h => optR (kvs.lookup z) h
  | .exc x h => .exc x h
  | _ => .bad
@[simp] theorem kixK_ok (kvs : List (Str × D)) (z : Str) (h : Hd) : kixK kvs (.ok (.str z) h) = optR (kvs.lookup z) h := rfl
@[simp] theorem mKIx_k (n : Str) (kvs : List (Str × D)) (mk : ME) (ρ : Env) (h : Hd) : mKIx n kvs mk ρ h = kixK kvs (mk ρ h) := by
  unfold mKIx kixK
  cases mk ρ h with
  | ok d h => cases d <;> simp [kixF]
  | _ => rfl
def kgetK (kvs : List (Str × D)) : Res D → Res D
  | .ok (.str z) h => .ok ((kvs.lookup z).getD .non) h
  | .exc x h => .exc x h
  | _ => .bad
@[simp] theorem kgetK_ok (kvs : List (Str × D)) (z : Str) (h : Hd) : kgetK kvs (.ok (.str z) h) = .ok ((kvs.lookup z).getD .non) h := rfl
@[simp] theorem mKGet_k (n : Str) (kvs : List (Str × D)) (mk : ME) (ρ : Env) (h : Hd) : mKGet n kvs mk ρ h = kgetK kvs (mk ρ h) := by
  unfold mKGet kgetK
  cases mk ρ h with
  | ok d h => cases d <;> rfl
  | _ => rfl
def kinK (kvs : List (Str × D)) : Res D → Res Bool
  | .ok (.str z) h => .ok (kvs.lookup z).isSome h
  | .exc x h => .exc x h
  | _ => .bad
@[simp] theorem kinK_ok (kvs : List (Str × D)) (z : Str) (h : Hd) : kinK kvs (.ok (.str z) h) = .ok (kvs.lookup z).isSome h := rfl
@[simp] theorem mKIn_k (kvs : List (Str × D)) (mk : ME) (ρ : Env) (h : Hd) : mKIn kvs mk ρ h = kinK kvs (mk ρ h) := by
  unfold mKIn kinK
  cases mk ρ h with
  | ok d h => cases d <;> rfl
  | _ => rfl
def pK3 (k v : D) : Res (List (D × D)) → Res (List (D × D))
  | .ok ps h => .ok ((k, v) :: ps) h
  | .exc x h => .exc x h
  | .bad => .bad
def pK2 (r : MP) (ρ : Env) (k : D) : Res D → Res (List (D × D))
  | .ok v h => pK3 k v (r ρ h)
  | .exc x h => .exc x h
  | .bad => .bad
def pK1 (mv : ME) (r : MP) (ρ : Env) : Res D → Res (List (D × D))
  | .ok k h => pK2 r ρ k (mv ρ h)
  | .exc x h => .exc x h
  | .bad => .bad
@[simp] theorem pK3_ok (k v : D) (ps : List (D × D)) (h : Hd) : pK3 k v (.ok ps h) = .ok ((k, v) :: ps) h := rfl
@[simp] theorem pK2_ok (r : MP) (k v : D) (h : Hd) : pK2 r ρ k (.ok v h) = pK3 k v (r ρ h) := rfl
@[simp] theorem pK1_ok (r : MP) (k : D) (h : Hd) : pK1 mv r ρ (.ok k h) = pK2 r ρ k (mv ρ h) := rfl
@[simp] theorem pNil_k (ρ : Env) (h : Hd) : pNil ρ h = .ok [] h := rfl
@[simp] theorem pCons_k (mk mv : ME) (r : MP) (ρ : Env) (h : Hd) : pCons mk mv r ρ h = pK1 mv r ρ (mk ρ h) := by
  unfold pCons pK1
  cases mk ρ h with
  | ok k h =>
    simp only [Res.bind_ok]; unfold pK2
    cases mv ρ h with
    | ok v h => simp only [Res.bind_ok]; unfold pK3; cases r ρ h <;> rfl
    | _ => rfl
  | _ => rfl
def dispK : Res (List (D × D)) → Res O
  | .ok ps h => dispF ps h
  | .exc x h => .exc x h
  | .bad => .bad
@[simp] theorem dispK_ok (ps : List (D × D)) (h : Hd) : dispK (.ok ps h) = dispF ps h := rfl
@[simp] theorem mDisp_k (mp : MP) (ρ : Env) (h : Hd) : mDisp mp ρ h = dispK (mp ρ h) := by unfold mDisp dispK; cases mp ρ h <;> rfl
def methK2 (f : D → List D → Hd → Res O) (x : D) : Res (List D) → Res O
  | .ok ds h => f x ds h
  | .exc x h => .exc x h
  | .bad => .bad
def methK (ty : Hd → D → Bool) (f : D → List D → Hd → Res O) (mas : MA) (ρ : Env) : Res D → Res O
  | .ok x h => if ty h x then methK2 f x (mas ρ h) else .bad
  | .exc x h => .exc x h
  | .bad => .bad
@[simp] theorem methK2_ok (f : D → List D → Hd → Res O) (x : D) (ds : List D) (h : Hd) : methK2 f x (.ok ds h) = f x ds h := rfl
@[simp] theorem methK_ok (ty : Hd → D → Bool) (f : D → List D → Hd → Res O) (x : D) (h : Hd) : methK ty f mas ρ (.ok x h) = if ty h x then methK2 f x (mas ρ h) else .bad := rfl
@[simp] theorem mMeth_k (ty : Hd → D → Bool) (f : D → List D → Hd → Res O) (mo : ME) (mas : MA) (ρ : Env) (h : Hd) : mMeth ty f mo mas ρ h = methK ty f mas ρ (mo ρ h) := by
  unfold mMeth methK
  cases mo ρ h with
  | ok x h =>
    simp only [Res.bind_ok]
    cases ty h x with
    | false => rfl
    | true => simp only [if_true]; unfold methK2; cases mas ρ h <;> rfl
  | _ => rfl
def callDK (n : Nat) (m : List D → Hd → Res D) (dvs : List D) : Res (List D) → Res D
  | .ok ds h => if ds.length = n then m (ds ++ dvs) h else .bad
  | .exc x h => .exc x h
  | .bad => .bad
@[simp] theorem callDK_ok (n : Nat) (m : List D → Hd → Res D) (dvs ds : List D) (h : Hd) : callDK n m dvs (.ok ds h) = if ds.length = n then m (ds ++ dvs) h else .bad := rfl
@[simp] theorem mCallD_k (n : Nat) (m : List D → Hd → Res D) (dvs : List D) (ma : MA) (ρ : Env) (h : Hd) : mCallD n m dvs ma ρ h = callDK n m dvs (ma ρ h) := by unfold mCallD callDK; cases ma ρ h <;> rfl
def callKK2 (n j : Nat) (m : List D → Hd → Res D) (ds : List D) : Res (List D) → Res D
  | .ok es h => if ds.length = n ∧ es.length = j then m (ds ++ es) h else .bad
  | .exc x h => .exc x h
  | .bad => .bad
def callKK (n j : Nat) (m : List D → Hd → Res D) (mk : MA) (ρ : Env) : Res (List D) → Res D
  | .ok ds h => callKK2 n j m ds (mk ρ h)
  | .exc x h => .exc x h
  | .bad => .bad
@[simp] theorem callKK2_ok (n j : Nat) (m : List D → Hd → Res D) (ds es : List D) (h : Hd) : callKK2 n j m ds (.ok es h) = if ds.length = n ∧ es.length = j then m (ds ++ es) h else .bad := rfl
@[simp] theorem callKK_ok (n j : Nat) (m : List D → Hd → Res D) (ds : List D) (h : Hd) : callKK n j m mks ρ (.ok ds h) = callKK2 n j m ds (mks ρ h) := rfl
@[simp] theorem mCallK_k (n j : Nat) (m : List D → Hd → Res D) (ma mk : MA) (ρ : Env) (h : Hd) : mCallK n j m ma mk ρ h = callKK n j m mk ρ (ma ρ h) := by
  unfold mCallK callKK
  cases ma ρ h with
  | ok ds h => simp only [Res.bind_ok]; unfold callKK2; cases mk ρ h <;> rfl
  | _ => rfl
@[simp] theorem gStarM_k (i : Nat) (gs : MGs) (xs : List D) (ρ : Env) (h : Hd) : gStarM i gs (.tup xs) ρ h = if i ≤ xs.length ∧ xs.length ≤ 16384 then gs (xs.take i ++ [.lst (xs.drop i)]) ρ h else .bad := rfl
@[simp] theorem zipXF_st (s : Str) (ys : List D) : zipXF h [.str s, .tup ys] = some ⟨zipD (signs s) ys, fun _ => True⟩ := rfl
@[simp] theorem zipXF_tt (xs ys : List D) : zipXF h [.tup xs, .tup ys] = some ⟨zipD xs ys, fun _ => True⟩ := rfl
@[simp] theorem zipXF_ll (xs ys : List D) : zipXF h [.lst xs, .lst ys] = some ⟨zipD xs ys, fun h => lstOf h (.lst xs) = some xs ∧ lstOf h (.lst ys) = some ys⟩ := rfl
end
def okS (n : Nat) (s : Str) : Bool := decide (s.length ≤ n) && PyData.strOk s
def pd (n : Nat) : Nat → D → Prop
  | _, .non => True
  | _, .bl _ => True
  | _, .int _ => True
  | _, .str s => okS n s = true
  | k + 1, .tup xs => xs.length ≤ n ∧ ∀ d ∈ xs, pd n k d
  | k + 1, .lst xs => xs.length ≤ n ∧ ∀ d ∈ xs, pd n k d
  | _, _ => False
section
variable {n k : Nat}
@[simp] theorem pd_non : pd n k .non := by cases k <;> trivial
@[simp] theorem pd_bl (b : Bool) : pd n k (.bl b) := by cases k <;> trivial
@[simp] theorem pd_int (i : Int) : pd n k (.int i) := by cases k <;> trivial
@[simp] theorem pd_str (s : Str) : pd n k (.str s) ↔ okS n s = true := by cases k <;> exact Iff.rfl
@[simp] theorem pd_tup (xs : List D) : pd n (k + 1) (.tup xs) ↔ xs.length ≤ n ∧ ∀ d ∈ xs, pd n k d := Iff.rfl
@[simp] theorem pd_lst (xs : List D) : pd n (k + 1) (.lst xs) ↔ xs.length ≤ n ∧ ∀ d ∈ xs, pd n k d := Iff.rfl
end
@[simp] theorem sl9 : (9 ≤ sizeLine) = True := by simp [sizeLine_eq]
@[simp] theorem sl10 : (10 ≤ sizeLine) = True := by simp [sizeLine_eq]
@[simp] theorem sl11 : (11 ≤ sizeLine) = True := by simp [sizeLine_eq]
@[simp] theorem sl12 : (12 ≤ sizeLine) = True := by simp [sizeLine_eq]
@[simp] theorem sl13 : (13 ≤ sizeLine) = True := by simp [sizeLine_eq]
@[simp] theorem sl14 : (14 ≤ sizeLine) = True := by simp [sizeLine_eq]
@[simp] theorem sl15 : (15 ≤ sizeLine) = True := by simp [sizeLine_eq]
@[simp] theorem sl16 : (16 ≤ sizeLine) = True := by simp [sizeLine_eq]
@[simp] theorem sl17 : (17 ≤ sizeLine) = True := by simp [sizeLine_eq]
@[simp] theorem sl18 : (18 ≤ sizeLine) = True := by simp [sizeLine_eq]
@[simp] theorem sl19 : (19 ≤ sizeLine) = True := by simp [sizeLine_eq]
@[simp] theorem sl20 : (20 ≤ sizeLine) = True := by simp [sizeLine_eq]
@[simp] theorem sl21 : (21 ≤ sizeLine) = True := by simp [sizeLine_eq]
@[simp] theorem sl22 : (22 ≤ sizeLine) = True := by simp [sizeLine_eq]
@[simp] theorem sl23 : (23 ≤ sizeLine) = True := by simp [sizeLine_eq]
@[simp] theorem sl24 : (24 ≤ sizeLine) = True := by simp [sizeLine_eq]
@[simp] theorem sl25 : (25 ≤ sizeLine) = True := by simp [sizeLine_eq]
@[simp] theorem sl26 : (26 ≤ sizeLine) = True := by simp [sizeLine_eq]
@[simp] theorem sl27 : (27 ≤ sizeLine) = True := by simp [sizeLine_eq]
@[simp] theorem sl28 : (28 ≤ sizeLine) = True := by simp [sizeLine_eq]
@[simp] theorem sl29 : (29 ≤ sizeLine) = True := by simp [sizeLine_eq]
@[simp] theorem sl30 : (30 ≤ sizeLine) = True := by simp [sizeLine_eq]
section
variable {ρ : Env} {mo mk mv : ME}
def dputK4 (ρ : Env) : Option Hd → Fl
  | some h => .nx ρ h
  | none => .bad
def dputK3 (ρ : Env) (v x : D) : Res D → Fl
  | .ok y h => dputK4 ρ (dputF x y v h)
  | .exc x h => .exc x ρ h
  | .bad => .bad
def dputK2 (mk : ME) (ρ : Env) (v : D) : Res D → Fl
  | .ok x h => dputK3 ρ v x (mk ρ h)
  | .exc x h => .exc x ρ h
  | .bad => .bad
def dputK (mo mk : ME) (ρ : Env) : Res D → Fl
  | .ok v h => dputK2 mk ρ v (mo ρ h)
  | .exc x h => .exc x ρ h
  | .bad => .bad
@[simp] theorem dputK4_some (h : Hd) : dputK4 ρ (some h) = .nx ρ h := rfl
@[simp] theorem dputK3_ok (v x y : D) (h : Hd) : dputK3 ρ v x (.ok y h) = dputK4 ρ (dputF x y v h) := rfl
@[simp] theorem dputK2_ok (v x : D) (h : Hd) : dputK2 mk ρ v (.ok x h) = dputK3 ρ v x (mk ρ h) := rfl
@[simp] theorem dputK_ok (v : D) (h : Hd) : dputK mo mk ρ (.ok v h) = dputK2 mk ρ v (mo ρ h) := rfl
@[simp] theorem mDPut_k (mo mk mv : ME) (ρ : Env) (h : Hd) : mDPut mo mk mv ρ h = dputK mo mk ρ (mv ρ h) := by
  unfold mDPut liftR dputK
  dsimp only
  cases mv ρ h with
  | ok v h =>
    simp only [Res.bind_ok]; unfold dputK2
    cases mo ρ h with
    | ok x h =>
      simp only [Res.bind_ok]; unfold dputK3
      cases mk ρ h with
      | ok y h =>
        simp only [Res.bind_ok]; unfold dputK4
        cases dputF x y v h <;> rfl
      | _ => rfl
    | _ => rfl
  | _ => rfl
end
theorem cutL_to {α : Type} (xs : List α) (n : Nat) : cutL xs none (some (n : Int)) = xs.take n := by
  unfold cutL
  rw [HT.sIx_nat, HT.sIx_none, Nat.sub_zero, List.drop_zero]
  by_cases h : n ≤ xs.length
  · rw [Nat.min_eq_left h]
  · rw [Nat.min_eq_right (by omega), List.take_of_length_le (Nat.le_refl _), List.take_of_length_le (by omega)]
theorem ofS_inj {a b : String} : (Str.ofString a = Str.ofString b) ↔ a = b := by
  constructor
  · intro h
    rw [Str.ofString_eq_toList, Str.ofString_eq_toList] at h
    have h2 : (a.toList.map Char.toNat) = (b.toList.map Char.toNat) := by
      have := congrArg (fun s : Str => s.cps.toList) h
      simpa using this
    have h3 : a.toList = b.toList := by
      generalize a.toList = x at h2
      generalize b.toList = y at h2
      induction x generalizing y with
      | nil => cases y with
        | nil => rfl
        | cons c r => simp at h2
      | cons c r ih => cases y with
        | nil => simp at h2
        | cons d s =>
          simp only [List.map_cons, List.cons.injEq] at h2
          rw [ih s h2.2, Char.ext (UInt32.toNat_inj.mp h2.1)]
    exact String.toList_inj.mp h3
  · intro h; rw [h]
section
variable {h : Hd} {ρ : Env}
def splitK2 (x : D) : Res D → Res O
  | .ok y h => splF x [y] h
  | .exc x h => .exc x h
  | .bad => .bad
def splitK (ma : ME) (ρ : Env) : Res D → Res O
  | .ok x h => if isStr h x then splitK2 x (ma ρ h) else .bad
  | .exc x h => .exc x h
  | .bad => .bad
@[simp] theorem splitK2_ok (x y : D) (h : Hd) : splitK2 x (.ok y h) = splF x [y] h := rfl
@[simp] theorem splitK_ok (ma : ME) (x : D) (h : Hd) : splitK ma ρ (.ok x h) = if isStr h x then splitK2 x (ma ρ h) else .bad := rfl
@[simp] theorem mSplit_k (mo ma : ME) (ρ : Env) (h : Hd) : mSplit mo ma ρ h = splitK ma ρ (mo ρ h) := by
  unfold mSplit splitK
  cases mo ρ h with
  | ok x h =>
    simp only [Res.bind_ok]
    split
    · unfold splitK2; cases ma ρ h <;> rfl
    · rfl
  | _ => rfl
theorem eqF_of {d e : D} {b : Bool} (q : cEq d e h = .ok b h) : eqF h d e = some b := by
  unfold cEq at q
  cases x : eqF h d e with
  | none => rw [x] at q; cases q
  | some c => rw [x] at q; cases q; rfl
theorem cNe_of {d e : D} {b : Bool} (q : cEq d e h = .ok b h) : cNe d e h = .ok (!b) h := by
  unfold cNe
  rw [eqF_of q]
  rfl
end
end DD
namespace DD
open PySem PySem.Spec PyProof.Rows L2 RZ
end DD
namespace DD
open PySem PySem.Spec L2 RZ
/-- a key, or nothing -/
def mKey (e : ME) : ME := fun ρ h => (e ρ h).bind fun d h => if (keyD d).isSome then .ok d h else .bad
noncomputable def mSSC (vs : List Nat) (mi : MI) (g : MG) (t : MT) (e : ME) : Env → Hd → Res O := fun ρ h => (mi ρ h).bind fun s h => (lcGo s.chk g t (mKey e) (wipeD ρ vs) s.items [] h).bind fun ds h => ssF (.lst ds) h
section
variable {h : Hd} {ρ : Env}
def keyK : Res D → Res D
  | .ok (.str s) h => .ok (.str s) h
  | .ok (.int i) h => .ok (.int i) h
  | .exc x h => .exc x h
  | _ => .bad
@[simp] theorem keyK_str (s : Str) (h : Hd) : keyK (.ok (.str s) h) = .ok (.str s) h := rfl
@[simp] theorem keyK_int (s : Int) (h : Hd) : keyK (.ok (.int s) h) = .ok (.int s) h := rfl
@[simp] theorem mKey_k (e : ME) (ρ : Env) (h : Hd) : mKey e ρ h = keyK (e ρ h) := by
  unfold mKey keyK
  cases e ρ h with
  | ok d h => cases d <;> rfl
  | _ => rfl
def sscK2 : Res (List D) → Res O
  | .ok ds h => ssF (.lst ds) h
  | .exc x h => .exc x h
  | .bad => .bad
@[simp] theorem sscK2_ok (ds : List D) (h : Hd) : sscK2 (.ok ds h) = ssF (.lst ds) h := rfl
noncomputable def sscK (vs : List Nat) (g : MG) (t : MT) (e : ME) (ρ : Env) : Res Src → Res O
  | .ok s h => sscK2 (lcGo s.chk g t (mKey e) (wipeD ρ vs) s.items [] h)
  | .exc x h => .exc x h
  | .bad => .bad
@[simp] theorem sscK_ok (vs : List Nat) (g : MG) (t : MT) (e : ME) (ρ : Env) (s : Src) (h : Hd) : sscK vs g t e ρ (.ok s h) = sscK2 (lcGo s.chk g t (mKey e) (wipeD ρ vs) s.items [] h) := rfl
@[simp] theorem mSSC_k (vs : List Nat) (mi : MI) (g : MG) (t : MT) (e : ME) (ρ : Env) (h : Hd) : mSSC vs mi g t e ρ h = sscK vs g t e ρ (mi ρ h) := by
  unfold mSSC sscK
  cases mi ρ h with
  | ok s h => simp only [Res.bind_ok]; unfold sscK2; cases lcGo s.chk g t (mKey e) (wipeD ρ vs) s.items [] h <;> rfl
  | _ => rfl
end
def gUnlM (n : Nat) (gs : MGs) : MG := fun d ρ h => match lstOf h d with
  | some xs => if xs.length = n then gs xs ρ h else .bad
  | none => .bad
section
variable {X : Cx} {W : WX} {pos : Pos}
theorem g_unl {es : List Expr} {k : Nat} {n : Nat} {ix : List Nat} {gs : MGs} (hc : X.calm = true) (h : SGs X W ix es gs) (hn : (assignEach es X.env).length = n := by rfl) (hst : (assignEach es X.env).findIdx? (·.1) = none := by rfl) : SG X W ix (.Tuple es k pos) (gUnlM n gs) :=
  PG.imp (pg_unl hc h.g hn hst) fun v σ H Q ⟨w, ρ, hd, d, e, s, r, p⟩ => by
  cases el : lstOf hd d with
  | some xs =>
    have p' : PostG (Cx.ct X) w W ix σ (gUnlM n gs d ρ hd) Q := p
    unfold gUnlM at p'
    rw [el] at p'
    simp only at p'
    split at p'
    · rename_i hl
      obtain ⟨a, vs, rfl, hq, z⟩ := lstOf_ok s r el
      exact ⟨a, vs, rfl, SqL.of hq, by rw [← z.len, hl], w, ρ, hd, xs, e, s, z, p'⟩
    · exact p'.elim
  | none =>
    have p' : PostG (Cx.ct X) w W ix σ (gUnlM n gs d ρ hd) Q := p
    unfold gUnlM at p'
    rw [el] at p'
    exact p'.elim
end
section
variable {h : Hd} {ρ : Env}
@[simp] theorem gUnlM_lst (n : Nat) (gs : MGs) (xs : List D) (ρ : Env) (h : Hd) : gUnlM n gs (.lst xs) ρ h = if xs.length = n then gs xs ρ h else .bad := rfl
end
end DD
namespace DD
open PySem PySem.Spec L2 RZ PyProof.Rows
def leI (a b : Int) : Bool := decide (a ≤ b)
def srtI (l : List Int) : List Int := l.mergeSort leI
theorem srtI_perm (l : List Int) : (srtI l).Perm l := List.mergeSort_perm l leI
theorem srtI_up (l : List Int) : (srtI l).Pairwise (· ≤ ·) :=
  (List.pairwise_mergeSort (le := leI) (fun a b c h1 h2 => by unfold leI at *; simp at *; omega) (fun a b => by unfold leI; simp; omega) l).imp fun h => by unfold leI at h; simpa using h
theorem srtI_one {l m : List Int} (p : m.Perm l) (u : m.Pairwise (· ≤ ·)) : m = srtI l :=
  List.Perm.eq_of_pairwise (fun a b _ _ h1 h2 => by omega) u (srtI_up l) (p.trans (srtI_perm l).symm)
theorem srtI_mem {l : List Int} {i : Int} : i ∈ srtI l ↔ i ∈ l := (srtI_perm l).mem_iff
def listOf (h : Hd) : D → Option (List D)
  | .rol xs => some xs
  | d => lstOf h d
def srtF : List D → Hd → Res O
  | [x], h => match (listOf h x).bind keysI with
    | some ns => if ns.length < 64 then .ok (.new (.lst ((srtI ns).map .int))) h else .bad
    | none => .bad
  | _, _ => .bad
theorem listOf_ok {c : Ct} {w : Wd} {h : Hd} {H : Hp} {d : D} {v : V} {xs : List D} (s : SR c w h H) (r : VR c w d v) (e : listOf h d = some xs) : ∃ a vs, v = .ref a ∧ SqL c.K H a vs ∧ VRs c w xs vs := by
  have go : ∀ {d : D}, lstOf h d = some xs → VR c w d v → ∃ a vs, v = .ref a ∧ SqL c.K H a vs ∧ VRs c w xs vs := fun e r => by
    obtain ⟨a, vs, e1, q, z⟩ := lstOf_ok s r e
    exact ⟨a, vs, e1, SqL.of q, z⟩
  cases d with
  | rol ys =>
    simp only [listOf, Option.some.injEq] at e; subst e
    simp only [VR] at r
    obtain ⟨a, vs, e1, q, z⟩ := r
    exact ⟨a, vs, e1, SqL_le s.F q, z⟩
  | _ => exact go (by simpa only [listOf] using e) r
theorem s_srt {c : Ct} : CallS c (rSorted c.K) srtF := fun {w W σ h H vs ds Q} s r p => by
  unfold srtF at p
  split at p
  · rename_i x
    obtain ⟨v, rfl, rv⟩ := r.one_inv
    split at p
    · rename_i ns en
      split at p
      · rename_i hn
        rw [Option.bind_eq_some_iff] at en
        obtain ⟨xs, e1, e2⟩ := en
        obtain ⟨a, us, rfl, hq, ru⟩ := listOf_ok s rv e1
        have eu := keysI_ok ru e2
        subst eu
        refine ⟨a, ns, rfl, hq, hn, fun ms q pm up hnew => ?_⟩
        rw [srtI_one pm up]
        obtain ⟨s2, r2⟩ := new_obj (z := .lst ((srtI ns).map .int)) s hnew (by intro z; cases z) ⟨_, upd_same, VRs_ints _⟩
        exact p _ w _ (.refl _) r2 s2
      · exact p.elim
    · exact p.elim
  · exact p.elim
def rot1 {α : Type} : List α → List α
  | [] => []
  | a :: l => l ++ [a]
structure CalleeKA (P : Program) (w : World) (K : PySem.W.Frag) (mg : Str → Option Value) (base : Heap) (k : Nat) (x : Str) (n : Nat) (ks : List Str) (dvs : List D) (kn : List Str) (m : List D → Hd → Res D) : Prop where
  ex : ∃ (f : Addr) (fd : FuncData) (ps : List Str), FnOk P w K mg base (L2.CX P w) k f fd ps (spM ⟨K, mg⟩ (n + ks.length) m) ∧ mg x = some (.ref f) ∧ PySem.W.keepIn K (.ref f) = true ∧ KBn K fd ps 0 kn (fun _ ws => rot1 ws) (fun _ zs => rot1 zs)
  k : CalleeK P w K mg base k x n ks dvs m
section
variable {P : Program} {w : World} {K : PySem.W.Frag} {mg : Str → Option Value} {base : Heap} {x : Str} {st : Stmt} {ps ks kn N : List Str} {f : Addr} {fd : FuncData} {k n : Nat} {dvs : List D} {b : MS} {m : List D → Hd → Res D}
theorem CalleeKA.mono {j : Nat} (C : CalleeKA P w K mg base j x n ks dvs kn m) (h : j ≤ k) : CalleeKA P w K mg base k x n ks dvs kn m :=
  let ⟨f, fd, ps, F, r⟩ := C.ex
  ⟨⟨f, fd, ps, F.mono h, r⟩, C.k.mono h⟩
end
def itoS (i : Int) : Str := Str.ofString (toString i)
def fmtF (d : D) (h : Hd) : Res D := match d with
  | .str y => if y.length ≤ sizeLine then .ok (.str y) h else .bad
  | .int i => if i.natAbs.log2 < 1920 then .ok (.str (itoS i)) h else .bad
  | _ => .bad
def mFmt (m : ME) : ME := fun ρ h => (m ρ h).bind fmtF
def mJs : List ME → Str → ME
  | [], acc => fun _ h => .ok (.str acc) h
  | m :: ms, acc => fun ρ h => (m ρ h).bind fun d h => match d with
    | .str y => if (acc ++ y).length ≤ sizeLine then mJs ms (acc ++ y) ρ h else .bad
    | _ => .bad
def SJ (X : Cx) (W : WX) (es : List Expr) (ms : List ME) : Prop := PJ X es (ms.map (tE (Cx.ct X) W))
section
variable {X : Cx} {W : WX} {e v1 v2 : Expr} {es rest : List Expr} {m : ME} {ms : List ME} {pos : Pos}
theorem e_fmt (he : SE X W e m) : SE X W (.FormattedValue e (-1) none pos) (mFmt m) := PE.imp (pe_fmt he) fun σ H Q q => by
  refine (tP.bind q).mono fun v H1 ⟨w1, ρ, h1, d, e1, s1, r1, p1⟩ => ?_
  unfold fmtF at p1
  split at p1
  · rename_i y
    simp only [VR] at r1; subst r1
    split at p1
    · rename_i hz
      exact .inl ⟨y, rfl, hz, p1.ret (by simp only [VR]) s1⟩
    · exact p1.elim
  · rename_i i
    simp only [VR] at r1; subst r1
    split at p1
    · rename_i hz
      exact .inr ⟨i, rfl, hz, p1.ret (by simp only [VR, itoS]) s1⟩
    · exact p1.elim
  · exact p1.elim
theorem sj_nil : SJ X W [] [] := .nil
theorem sj_cons (h : SE X W e m) (r : SJ X W es ms) : SJ X W (e :: es) (m :: ms) := .cons h r
theorem js_rd {c : Ct} : ∀ {ms : List ME} {acc : Str} {σ : L2.St} {H : Hp} {Q : VK}, tE c W (mJs ms acc) σ H Q → tJs (ms.map (tE c W)) acc σ H fun out H1 => Q (.str out) H1
  | [], acc, σ, H, Q, ⟨w, ρ, h, e, s, p⟩ => p.ret (by simp only [VR]) s
  | m :: ms, acc, σ, H, Q, q => by
    refine (tP.bind (k := fun ρ d h => match d with
      | .str y => if (acc ++ y).length ≤ sizeLine then mJs ms (acc ++ y) ρ h else .bad
      | _ => .bad) q).mono fun v H1 ⟨w1, ρ, h1, d, e1, s1, r1, p1⟩ => ?_
    split at p1
    · rename_i y
      simp only [VR] at r1; subst r1
      split at p1
      · rename_i hz
        exact ⟨y, rfl, hz, js_rd ⟨w1, ρ, h1, e1, s1, p1⟩⟩
      · exact p1.elim
    · exact p1.elim
theorem e_js (h : SJ X W (v1 :: v2 :: rest) ms) : SE X W (.JoinedStr (v1 :: v2 :: rest) pos) (mJs ms Str.empty) := PE.imp (pe_joined h) fun σ H Q q => js_rd q
end
def addP : D → D → Option D
  | .int i, .int j => some (.int (i + j))
  | .str a, .str b => if a.length ≤ 100000 ∧ b.length ≤ 100000 then some (.str (a ++ b)) else none
  | _, _ => none
def augK (i : Nat) (x d : D) (ρ : Env) (h : Hd) : Fl := match addP x d with
  | some z => .nx (ρ.set i (some z)) h
  | none => .bad
section
variable {X : Cx} {W : WX} {o i e : Expr} {mo mi me : ME} {pos tpos : Pos}
def putF (o i x y : D) (h : Hd) : Res Unit := match addP x y with
  | some z => (match setF o i z h with
    | some h' => .ok () h'
    | none => .bad)
  | none => .bad
end
end DD
namespace RZ
open PySem PySem.Spec PyProof.Rows L2
end RZ
namespace DD
open PySem PySem.Spec L2 RZ
def zipTF (h : Hd) : List D → Option Src
  | [.str s, y] => match lstOf h y with
    | some ys => some ⟨zipD (signs s) ys, fun h => lstOf h y = some ys⟩
    | none => zipXF h [.str s, y]
  | ds => zipXF h ds
end DD
namespace DD
open PySem PySem.Spec L2 TL
structure Sc where
  deep : Nat
  fs : List Str
  p : Str
def sgn (c : Nat) : Str := ⟨#[c]⟩
def stp (c : Nat) (s : Sc) : Option Sc :=
  if c = 40 then some ⟨s.deep + 1, s.fs, s.p ++ sgn c⟩
  else if c = 41 then (match s.deep with
    | 0 => none
    | d + 1 => some ⟨d, s.fs, s.p ++ sgn c⟩)
  else if c = 44 ∧ s.deep = 0 then some ⟨0, s.fs ++ [s.p], Str.empty⟩
  else some ⟨s.deep, s.fs, s.p ++ sgn c⟩
def low (s : Str) : Prop := ∀ c ∈ tl s, 97 ≤ c ∧ c ≤ 122
end DD
namespace DD
open PySem PySem.Spec L2 TL RZ
section
variable {h : Hd}
@[simp] theorem zipTF_st (s : Str) (ys : List D) : zipTF h [.str s, .tup ys] = some ⟨zipD (signs s) ys, fun _ => True⟩ := rfl
@[simp] theorem zipTF_tt (xs ys : List D) : zipTF h [.tup xs, .tup ys] = some ⟨zipD xs ys, fun _ => True⟩ := rfl
@[simp] theorem zipTF_ll (xs ys : List D) : zipTF h [.lst xs, .lst ys] = some ⟨zipD xs ys, fun h => lstOf h (.lst xs) = some xs ∧ lstOf h (.lst ys) = some ys⟩ := rfl
@[simp] theorem zipTF_sl (s : Str) (ys : List D) : zipTF h [.str s, .lst ys] = some ⟨zipD (signs s) ys, fun h => lstOf h (.lst ys) = some ys⟩ := rfl
def fmtK : Res D → Res D
  | .ok d h => fmtF d h
  | .exc x h => .exc x h
  | .bad => .bad
@[simp] theorem fmtK_ok (d : D) (h : Hd) : fmtK (.ok d h) = fmtF d h := rfl
@[simp] theorem mFmt_k (m : ME) (ρ : Env) (h : Hd) : mFmt m ρ h = fmtK (m ρ h) := by unfold mFmt fmtK; cases m ρ h <;> rfl
def jsK (ms : List ME) (acc : Str) (ρ : Env) : Res D → Res D
  | .ok (.str y) h => if (acc ++ y).length ≤ sizeLine then mJs ms (acc ++ y) ρ h else .bad
  | .ok _ _ => .bad
  | .exc x h => .exc x h
  | .bad => .bad
@[simp] theorem jsK_str (ms : List ME) (acc : Str) (ρ : Env) (y : Str) (h : Hd) : jsK ms acc ρ (.ok (.str y) h) = if (acc ++ y).length ≤ sizeLine then mJs ms (acc ++ y) ρ h else .bad := rfl
@[simp] theorem mJs_nil (acc : Str) (ρ : Env) (h : Hd) : mJs [] acc ρ h = .ok (.str acc) h := rfl
@[simp] theorem mJs_cons (m : ME) (ms : List ME) (acc : Str) (ρ : Env) (h : Hd) : mJs (m :: ms) acc ρ h = jsK ms acc ρ (m ρ h) := by
  show (m ρ h).bind _ = _
  cases m ρ h with
  | ok d h1 => cases d <;> rfl
  | _ => rfl
def augKK (i : Nat) (x : D) (ρ : Env) : Res D → Fl
  | .ok d h => augK i x d ρ h
  | .exc x h => .exc x ρ h
  | .bad => .bad
@[simp] theorem augKK_ok (i : Nat) (x d : D) (ρ : Env) (h : Hd) : augKK i x ρ (.ok d h) = augK i x d ρ h := rfl
@[simp] theorem augK_int (k : Nat) (i j : Int) (ρ : Env) (h : Hd) : augK k (.int i) (.int j) ρ h = .nx (ρ.set k (some (.int (i + j)))) h := rfl
def augSK (ρ : Env) : Res Unit → Fl
  | .ok _ h => .nx ρ h
  | .exc x h => .exc x ρ h
  | .bad => .bad
@[simp] theorem augSK_ok (ρ : Env) (u : Unit) (h : Hd) : augSK ρ (.ok u h) = .nx ρ h := rfl
end
def joinTF (a : Str) (y : D) (h : Hd) : Res O := match (seqOf h y).bind keysS with
  | some ss => if (ss.map (·.length)).sum + ss.length * a.length ≤ 16777216 then .ok (.val (.str (Txt.join a ss))) h else .bad
  | none => .bad
def mJoinT (ma mb : ME) : Env → Hd → Res O := fun ρ h => (ma ρ h).bind <| onStr fun a h => (mb ρ h).bind fun y h => joinTF a y h
section
variable {X : Cx} {W : WX} {a b : Expr} {ma mb : ME} {pos apos : Pos} {h : Hd}
@[simp] theorem joinTF_lst (a : Str) (xs : List D) : joinTF a (.lst xs) h = joinF a (.lst xs) h := rfl
def joinT2 (a : Str) : Res D → Res O
  | .ok y h => joinTF a y h
  | .exc x h => .exc x h
  | .bad => .bad
@[simp] theorem joinT2_ok (a : Str) (y : D) (h : Hd) : joinT2 a (.ok y h) = joinTF a y h := rfl
def joinT1 (mb : ME) (ρ : Env) : Res D → Res O
  | .ok (.str a) h => joinT2 a (mb ρ h)
  | .ok _ _ => .bad
  | .exc x h => .exc x h
  | .bad => .bad
@[simp] theorem joinT1_ok (mb : ME) (ρ : Env) (a : Str) (h : Hd) : joinT1 mb ρ (.ok (.str a) h) = joinT2 a (mb ρ h) := rfl
@[simp] theorem mJoinT_k (ma mb : ME) (ρ : Env) (h : Hd) : mJoinT ma mb ρ h = joinT1 mb ρ (ma ρ h) := by
  unfold mJoinT joinT1
  cases ma ρ h with
  | ok x h1 =>
    cases x with
    | str a => show (mb ρ h1).bind (fun y h => joinTF a y h) = joinT2 a (mb ρ h1); unfold joinT2; cases mb ρ h1 <;> rfl
    | _ => rfl
  | _ => rfl
end
def mOrT (m k : ME) : ME := fun ρ h => (m ρ h).bind fun d h => (optR (truthD h d) h).bind fun b h => if b then .ok d h else k ρ h
section
variable {X : Cx} {W : WX} {a b : Expr} {ma mb : ME} {rest : List Expr} {pos : Pos} {h : Hd}
def orTK2 (k : ME) (ρ : Env) (d : D) (h : Hd) : Option Bool → Res D
  | some b => if b then .ok d h else k ρ h
  | none => .bad
def orTK (k : ME) (ρ : Env) : Res D → Res D
  | .ok d h => orTK2 k ρ d h (truthD h d)
  | .exc x h => .exc x h
  | .bad => .bad
@[simp] theorem orTK2_some (k : ME) (ρ : Env) (d : D) (h : Hd) (b : Bool) : orTK2 k ρ d h (some b) = if b then .ok d h else k ρ h := rfl
@[simp] theorem orTK_ok (k : ME) (ρ : Env) (d : D) (h : Hd) : orTK k ρ (.ok d h) = orTK2 k ρ d h (truthD h d) := rfl
@[simp] theorem mOrT_k (m k : ME) (ρ : Env) (h : Hd) : mOrT m k ρ h = orTK k ρ (m ρ h) := by
  unfold mOrT orTK
  cases m ρ h with
  | ok d h => simp only [Res.bind_ok]; unfold orTK2; cases truthD h d <;> rfl
  | _ => rfl
end
end DD
namespace L2
open PySem PySem.Spec PyProof.Rows
structure RoomG (k : Nat) (A : Around) : Prop where
  r : Room k A
  g : A.guards = some []
theorem RoomG.mono {j k : Nat} {A : Around} (r : RoomG k A) (h : j ≤ k) : RoomG j A := ⟨r.r.mono h, r.g⟩
theorem guards_deeper {A : Around} {env : Env} : (A.deeper env).guards = A.guards := by
  first | rfl | simp [Around.deeper]
theorem guards_make {A : Around} {C : Addr} {us : List Value} {kw : List (Str × Value)} : (A.under (.builtin "type.__call__" ⟨.ref C :: us, kw⟩)).guards = A.guards := by
  first | rfl | (cases A; simp [Around.under, Code.isGuard, guardIds, Code.guards, pushGuards])
theorem RoomG.deeper {k : Nat} {A : Around} (r : RoomG (k + 1) A) (env : Env) : RoomG k (A.deeper env) := ⟨r.r.deeper env, guards_deeper.trans r.g⟩
theorem RoomG.make {k : Nat} {A : Around} (r : RoomG (k + 1) A) (C : Addr) (us : List Value) (kw : List (Str × Value)) : RoomG k (A.under (.builtin "type.__call__" ⟨.ref C :: us, kw⟩)) := ⟨r.r.make C us kw, guards_make.trans r.g⟩
structure FnG (P : Program) (w : World) (K : PySem.W.Frag) (mg : Str → Option Value) (base : Heap) (CX : CXT) (k : Nat) (f : Addr) (fd : FuncData) (ps : List Str) (sp : Sp) : Prop where
  len : ∀ vs H Q E, sp vs H Q E → vs.length = ps.length
  run : ∀ (A : Around) (outer : List Env) (s : Shared) (H : Hp) (args : Args) (us : List Value) (vs : List V) (Q : VK) (E : XK), RoomG k A → Env0 P w K mg base A outer s H → BindsTo s fd args (ps.zip us) → Vals vs us → sp vs H Q E →
    codeAny (model P w) A (.call (.ref f) args) (CR CX outer P w H s Q E) s
section
variable {P : Program} {w : World} {K : PySem.W.Frag} {mg : Str → Option Value} {base : Heap} {CX : CXT} {j k : Nat} {f : Addr} {fd : FuncData} {ps N : List Str} {sp sp' : Sp}
theorem FnG.mono (F : FnG P w K mg base CX j f fd ps sp) (h : j ≤ k) : FnG P w K mg base CX k f fd ps sp := ⟨F.len, fun A outer s H args us vs Q E hr => F.run A outer s H args us vs Q E (hr.mono h)⟩
theorem FnG.imp (F : FnG P w K mg base CX k f fd ps sp) (h : ∀ vs H Q E, sp' vs H Q E → sp vs H Q E) : FnG P w K mg base CX k f fd ps sp' :=
  ⟨fun vs H Q E q => F.len vs H Q E (h _ _ _ _ q), fun A outer s H args us vs Q E hr he hb hv hs => F.run A outer s H args us vs Q E hr he hb hv (h _ _ _ _ hs)⟩
theorem fn_ofG {name qual : Str} {params : Arguments} {body : List Stmt} {scope : Scope} {dV kV doc pm cdv ct oc : Value} {an od : Option Addr} {osl : Array (Option Value)} (lk : K.lookup f = some ⟨oc, od, .func (PySem.W.fnOf name qual params body scope dV kV doc pm an cdv ct), osl⟩)
    (hcd : PySem.W.codeIn K cdv qual = true) (S : FnScope N ps scope) (len : ∀ vs H Q E, sp vs H Q E → vs.length = ps.length)
    (hbody : ∀ (A : Around) (outer : List Env) (s : Shared) (H : Hp) (vs : List V) (Q : VK) (E : XK), RoomG k (A.deeper (envOfC qual scope s.heap.objs.size f cdv)) → sp vs H Q E →
      ∃ t, PSs (cxOf CX P w K mg base N qual scope f cdv A outer s H E) body t ∧ t { nx := fun _ H' => Q .non H', rt := Q } (start N vs) H) :
    FnG P w K mg base CX (k + 1) f (PySem.W.fnOf name qual params body scope dV kV doc pm an cdv ct) ps sp :=
  ⟨len, fun A outer s H args us vs Q E hr e0 hb r hsp => LamX.run_ofS lk hcd S hr.r e0 hb r (len _ _ _ _ hsp) fun _ => hbody A outer s H vs Q E (hr.deeper _) hsp⟩
end
end L2
namespace DD
open PySem PySem.Spec L2 RZ
theorem room_caller {k : Nat} (hr : Room k callerA) : RoomG k callerA := ⟨hr, rfl⟩
def frzD : D → Hd → Res D
  | .ref r, h => match h[r]? with
    | some (.lst xs) => .ok (.lst xs) (h.set r .gone)
    | some (.dct ks us) => .ok (.dct ks us) (h.set r .gone)
    | some (.dtt ks us) => .ok (.dtt ks us) (h.set r .gone)
    | some (.ins n ns us) => .ok (.ins n ns us) (h.set r .gone)
    | _ => .bad
  | d, h => .ok d h
def mFrz (m : ME) : ME := fun ρ h => (m ρ h).bind frzD
section
variable {X : Cx} {W : WX} {e : Expr} {m : ME}
theorem frzD_ref {r : Nat} {h : Hd} {z : Cell} (e : h[r]? = some z) (g : ¬ deadC z) : frzD (.ref r) h = .ok (fzC z) (h.set r .gone) := by
  cases z with
  | gone => exact absurd .gone g
  | lkd ks us => exact absurd (.lkd ks us) g
  | lkt ks us => exact absurd (.lkt ks us) g
  | _ => simp only [frzD, e, fzC]
theorem frzD_post {c : Ct} {w : Wd} {σ : L2.St} {h : Hd} {H : Hp} {d : D} {v : V} {Q : VK} (s : SR c w h H) (r : VR c w d v) (p : Post (RV c) c w W σ (frzD d h) Q) :
    Q v H ∨ ∃ a u, H a = some u ∧ Mut (some u) ∧ ∀ od, Q v (upd H a (.frz od u)) := by
  cases d with
  | ref n =>
    have nb : ∃ z, h[n]? = some z ∧ ¬ deadC z := by
      cases q : h[n]? with
      | none => simp only [frzD, q] at p; exact p.elim
      | some z =>
        refine ⟨z, rfl, fun e => ?_⟩
        cases e <;> (simp only [frzD, q] at p; exact p.elim)
    obtain ⟨z, ez, g⟩ := nb
    rw [frzD_ref ez g] at p
    have r' := r
    simp only [VR] at r'
    obtain ⟨a, rfl, f⟩ := r'
    obtain ⟨a', q1, q2, q3, k⟩ := s.cell n z ez (dn g)
    rw [f] at q1; cases q1
    obtain ⟨o, eo⟩ := k.some (dn g)
    have pl := k.plain (dn g) eo
    by_cases hd : isDc z = true
    · refine .inr ⟨a, o, eo, ?_, fun od => ?_⟩
      · cases z with
        | dct ks us => obtain ⟨kvs, q, _⟩ := k; rw [q] at eo; cases eo; trivial
        | dtt ks us => obtain ⟨kvs, q, _⟩ := k; rw [q] at eo; cases eo; trivial
        | _ => cases hd
      · -- the cell is written with its own entries, then frozen as it lies
        have k2 : ∀ w', Le w w' → w'.F a = some (.frz od o) → VR c w' (fzC z) (.ref a) := fun w' l e => VR_fz (od := od) k g eo l (by unfold fzO; rw [if_pos hd]; exact e)
        obtain ⟨l, s'⟩ := s.freezeAs ez g f eo (plain_frz od o)
        exact p _ _ _ l (k2 _ l upd_same) s'
    · obtain ⟨l, s'⟩ := s.freeze (u := o) ez g f eo pl
      exact .inl (p _ _ _ l (VR_fz (od := ⟨.none, none, .fields #[], #[]⟩) k g eo l (by unfold fzO; rw [if_neg hd]; exact upd_same)) s')
  | _ => exact .inl (p.ret r s)
theorem e_frz (h : SE X W e m) : SE X W e (mFrz m) := PE.imp (pe_lockP h) fun σ H Q q => by
  refine (tP.bind q).mono fun v H1 ⟨w1, ρ, h1, d, e1, s1, r1, p1⟩ => ?_
  exact frzD_post s1 r1 p1
def frzK : Res D → Res D
  | .ok d h => frzD d h
  | .exc x h => .exc x h
  | .bad => .bad
@[simp] theorem frzK_ok (d : D) (h : Hd) : frzK (.ok d h) = frzD d h := rfl
@[simp] theorem mFrz_k (m : ME) (ρ : Env) (h : Hd) : mFrz m ρ h = frzK (m ρ h) := by unfold mFrz frzK; cases m ρ h <;> rfl
end
end DD
namespace L2
open PySem PySem.Spec PyProof.Rows
section
variable {X : Cx} {CX : CXT} {k n : Nat} {f C : Addr} {fd : FuncData} {ps ks : List Str} {sp : Sp} {E : St → XK} {x m : Str} {p pos apos : Pos} {e o : Expr} {es : List Expr} {kws : List Keyword} {ta : TE} {t tk : TA} {g : List Value → List Value → List Value} {gV : List V → List V → List V}
/-- a call of any shape: the positional values, then the keywords' ones -/
def tCalG (n j : Nat) (sp : Sp) (gV : List V → List V → List V) (E : St → XK) (t tk : TA) : TE := fun σ H Q => t σ H fun vs H2 => tk σ H2 fun zs H3 => vs.length = n ∧ zs.length = j ∧ sp (gV vs zs) H3 Q (E σ)
/-- a method's call of any shape -/
def tMthG (C : Addr) (m : Str) (n j : Nat) (sp : Sp) (gV : List V → List V → List V) (E : St → XK) (ta : TE) (t tk : TA) : TE := fun σ H Q => ta σ H fun x H1 => ∃ a dx fs, x = .ref a ∧ H1 a = some (.ins C dx fs) ∧ fs.lookup m = none ∧
  t σ H1 fun vs H2 => tk σ H2 fun zs H3 => vs.length = n ∧ zs.length = j ∧ sp (gV (x :: vs) zs) H3 Q (E σ)
/-- a making of any shape -/
def tMakG (C : Addr) (n j : Nat) (sp : Sp) (gV : List V → List V → List V) (E : St → XK) (t tk : TA) : TE := fun σ H Q => t σ H fun vs H1 => tk σ H1 fun zs H2 => vs.length = n ∧ zs.length = j ∧
  ∀ x dx, H2 x = none → H2 dx = none → dx ≠ x → sp (gV (.ref x :: vs) zs) (upd (upd H2 dx (.own x)) x (.ins C dx [])) (fun v H3 => v = .non ∧ Q (.ref x) H3) (E σ)
theorem run_fnG {pins : List (Addr × Obj)} {σ : St} {H : Hp} {s : Shared} {Q : VK} {us ws : List Value} {vs zs : List V} (F : FnG X.prog X.w X.K X.mg X.base CX k f fd ps sp) (hr : RoomG k X.A) (hb : KBn X.K fd ps n ks g gV) (hx : PassesAt CX X σ (E σ))
    (I : Inv X pins σ H s) (rv : Vals vs us) (rw_ : Vals zs ws) (hn : vs.length = n) (hj : zs.length = ks.length) (want : sp (gV vs zs) H Q (E σ)) : wpAny (model X.prog X.w) X.A (call (.ref f) us (ks.zip ws)) (EP X pins σ Q) X.xe s := by
  have bt := hb.to s us ws I.kIn (by rw [← rv.length, hn]) (by rw [← rw_.length, hj])
  refine wpAny_call (codeAny_mono (F.run X.A X.stack s H ⟨us, ks.zip ws⟩ (g us ws) (gV vs zs) Q (E σ) hr I.env0 bt (hb.rel rv rw_) want) fun res s2 hres => ?_)
  match res, hres with
  | .error er, hres => exact hx pins H s er s2 I hres
  | .ok (.ret u), hres => exact I.after hres
  | .ok .next, hres => exact hres.elim
  | .ok .brk, hres => exact hres.elim
  | .ok .cont, hres => exact hres.elim
theorem run_makG {pins : List (Addr × Obj)} {σ : St} {H : Hp} {s : Shared} {Q : VK} {us ws : List Value} {vs zs : List V} (M : Mk X.K C f) (F : FnG X.prog X.w X.K X.mg X.base CX k f fd ps sp) (hr : RoomG (k + 1) X.A) (hb : KBn X.K fd ps (n + 1) ks g gV) (hx : PassesAt CX X σ (E σ))
    (I : Inv X pins σ H s) (rv : Vals vs us) (rw_ : Vals zs ws) (hn : vs.length = n) (hj : zs.length = ks.length)
    (want : ∀ x dx, H x = none → H dx = none → dx ≠ x → sp (gV (.ref x :: vs) zs) (upd (upd H dx (.own x)) x (.ins C dx [])) (fun v H3 => v = .non ∧ Q (.ref x) H3) (E σ)) : wpAny (model X.prog X.w) X.A (call (.ref C) us (ks.zip ws)) (EP X pins σ Q) X.xe s := by
  have w1 := want (s.heap.objs.size + 1) s.heap.objs.size (I.hok.fresh (Nat.le_succ _)) (I.hok.fresh (Nat.le_refl _)) (Nat.ne_of_lt (Nat.lt_succ_self _))
  have J := Inv.made (C := C) I
  have rv2 : Vals (V.ref (s.heap.objs.size + 1) :: vs) (Value.ref (s.heap.objs.size + 1) :: us) := .cons rfl rv
  have bt := hb.to _ (Value.ref (s.heap.objs.size + 1) :: us) ws J.kIn (by rw [← rv2.length, List.length_cons, hn]) (by rw [← rw_.length, hj])
  refine wpAny_call (make_map (f := f) I.kIn M.makes M.init (beq_iff_eq.mp M.fn) (codeAny_mono (F.run _ X.stack _ _ ⟨Value.ref (s.heap.objs.size + 1) :: us, ks.zip ws⟩ (g (Value.ref (s.heap.objs.size + 1) :: us) ws) _ _ (E σ) (hr.make C us (ks.zip ws))
    (J.env0.make C us (ks.zip ws)) bt (hb.rel rv2 rw_) w1) fun res s2 hres => ?_))
  match res, hres with
  | .error er, hres => exact hx pins _ _ er s2 J hres
  | .ok (.ret u), hres =>
    obtain ⟨v, H3, J2, ru, ev, q⟩ := J.after hres
    subst ev
    exact ⟨ru, ⟨V.ref (s.heap.objs.size + 1), H3, J2, rfl, q⟩⟩
  | .ok .next, hres => exact hres.elim
  | .ok .brk, hres => exact hres.elim
  | .ok .cont, hres => exact hres.elim
section
variable (hall : (backToKw pos (keywordEach kws X.env)).all (·.1.isSome) = true) (hks : (backToKw pos (keywordEach kws X.env)).filterMap (·.1) = ks)
/-- f(e, .., k = v, ..) -/
theorem pe_calG (F : FnG X.prog X.w X.K X.mg X.base CX k f fd ps sp) (hr : RoomG k X.A) (hg : Gl X x) (hm : X.mg x = some (.ref f)) (hk : PySem.W.keepIn X.K (.ref f) = true) (hb : KBn X.K fd ps n ks g gV) (hx : ∀ σ, PassesAt CX X σ (E σ)) (ha : PA X (e :: es) t) (hkw : PK X kws tk)
    (hall : (backToKw pos (keywordEach kws X.env)).all (·.1.isSome) = true) (hks : (backToKw pos (keywordEach kws X.env)).filterMap (·.1) = ks) (hdb : (x == ("__debug__" : Str)) = false)
    (hst : starEach (e :: es) X.env = (false, eval e X.env) :: starEach es X.env) (hpl : ((backTo pos (starEach (e :: es) X.env)).any (·.1) || (backToKw pos (keywordEach kws X.env)).any (·.1.isNone)) = false) : PE X (.Call (.Name x p) (e :: es) kws pos) (tCalG n ks.length sp gV E t tk) := by
  refine ⟨fun pins s σ H Q I want => wpAny_Call_Name_kw (ld_glob I hg hm (PySem.W.callWith_KW (h₀ := X.base) I.ok.mod.kin hk hall (thn (ha.run pos pins s σ H _ I want) fun us s1 ⟨vs, H1, I1, rv, q⟩ =>
    thn (hkw.run pos pins s1 σ H1 _ I1 q) fun ws s2 ⟨zs, H2, I2, rz, l1, l2, q2⟩ => ⟨I2.kIn, ?_⟩) hpl hst) hdb)⟩
  rw [hks]
  exact run_fnG F hr hb (hx σ) I2 rv rz l1 l2 q2
/-- C(e, .., k = v, ..) -/
theorem pe_makG (M : Mk X.K C f) (F : FnG X.prog X.w X.K X.mg X.base CX k f fd ps sp) (hr : RoomG (k + 1) X.A) (hg : Gl X x) (hm : X.mg x = some (.ref C)) (hb : KBn X.K fd ps (n + 1) ks g gV) (hx : ∀ σ, PassesAt CX X σ (E σ)) (ha : PA X (e :: es) t) (hkw : PK X kws tk)
    (hall : (backToKw pos (keywordEach kws X.env)).all (·.1.isSome) = true) (hks : (backToKw pos (keywordEach kws X.env)).filterMap (·.1) = ks) (hdb : (x == ("__debug__" : Str)) = false)
    (hst : starEach (e :: es) X.env = (false, eval e X.env) :: starEach es X.env) (hpl : ((backTo pos (starEach (e :: es) X.env)).any (·.1) || (backToKw pos (keywordEach kws X.env)).any (·.1.isNone)) = false) : PE X (.Call (.Name x p) (e :: es) kws pos) (tMakG C n ks.length sp gV E t tk) := by
  refine ⟨fun pins s σ H Q I want => wpAny_Call_Name_kw (ld_glob I hg hm (PySem.W.callWith_KW (h₀ := X.base) I.ok.mod.kin M.kp hall (thn (ha.run pos pins s σ H _ I want) fun us s1 ⟨vs, H1, I1, rv, q⟩ =>
    thn (hkw.run pos pins s1 σ H1 _ I1 q) fun ws s2 ⟨zs, H2, I2, rz, l1, l2, q2⟩ => ⟨I2.kIn, ?_⟩) hpl hst) hdb)⟩
  rw [hks]
  exact run_makG M F hr hb (hx σ) I2 rv rz l1 l2 q2
theorem pe_makG0 (M : Mk X.K C f) (F : FnG X.prog X.w X.K X.mg X.base CX k f fd ps sp) (hr : RoomG (k + 1) X.A) (hg : Gl X x) (hm : X.mg x = some (.ref C)) (hb : KBn X.K fd ps (0 + 1) ks g gV) (hx : ∀ σ, PassesAt CX X σ (E σ)) (hkw : PK X kws tk)
    (hall : (backToKw pos (keywordEach kws X.env)).all (·.1.isSome) = true) (hks : (backToKw pos (keywordEach kws X.env)).filterMap (·.1) = ks) (hdb : (x == ("__debug__" : Str)) = false)
    (hpl : ((backTo pos (starEach [] X.env)).any (·.1) || (backToKw pos (keywordEach kws X.env)).any (·.1.isNone)) = false) : PE X (.Call (.Name x p) [] kws pos) (tMakG C 0 ks.length sp gV E tNil tk) := by
  refine ⟨fun pins s σ H Q I want => wpAny_Call_Name_kw (ld_glob I hg hm (PySem.W.callWith_KW0 (h₀ := X.base) I.ok.mod.kin M.kp hall (thn (hkw.run pos pins s σ H _ I want) fun ws s2 ⟨zs, H2, I2, rz, l1, l2, q2⟩ => ⟨I2.kIn, ?_⟩) hpl) hdb)⟩
  rw [hks]
  exact run_makG (us := []) (vs := []) M F hr hb (hx σ) I2 .nil rz l1 l2 q2
/-- o.m(e, .., k = v, ..) -/
theorem pe_mthG {pl : Sem Bool} (he : PE X o ta) (c : Cls X.K C) (hm : Meth X.K C m f) (F : FnG X.prog X.w X.K X.mg X.base CX k f fd ps sp) (hr : RoomG k X.A) (hb : KBn X.K fd ps (n + 1) ks g gV) (hx : ∀ σ, PassesAt CX X σ (E σ)) (ha : PA X (e :: es) t) (hkw : PK X kws tk)
    (hall : (backToKw pos (keywordEach kws X.env)).all (·.1.isSome) = true) (hks : (backToKw pos (keywordEach kws X.env)).filterMap (·.1) = ks)
    (hst : starEach (e :: es) X.env = (false, eval e X.env) :: starEach es X.env) (hpl : ((backTo pos (starEach (e :: es) X.env)).any (·.1) || (backToKw pos (keywordEach kws X.env)).any (·.1.isNone)) = false)
    (hev : eval (.Call (.Attribute o m apos) (e :: es) kws pos) X.env = (do
      let ov ← eval o X.env
      standAt apos.atName
      let (f, first) ← holding [ov] (getMethod ov m pl)
      callWith pos f first (backTo pos (starEach (e :: es) X.env)) (backToKw pos (keywordEach kws X.env)))) : PE X (.Call (.Attribute o m apos) (e :: es) kws pos) (tMthG C m n ks.length sp gV E ta t tk) := by
  refine ⟨fun pins s σ H Q I want => PySem.W.methodCall_KW (pl := pl) (thn (he.run pins s σ H _ I want) fun u s1 ⟨x, H1, I1, rx, a, dx, fs, ex, ea, l, q⟩ => ?_) hev⟩
  subst ex
  obtain rfl : u = Value.ref a := rx
  refine getmeth_ok I1 ea c hm l (PySem.W.callWith_KW (first := [.ref a]) (h₀ := X.base) I.ok.mod.kin hm.kp hall (thn (ha.run pos pins s1 σ H1 _ I1 q) fun us s2 ⟨vs, H2, I2, rv, q2⟩ =>
    thn (hkw.run pos pins s2 σ H2 _ I2 q2) fun ws s3 ⟨zs, H3, I3, rz, l1, l2, q3⟩ => ⟨I3.kIn, ?_⟩) hpl hst)
  rw [hks]
  exact run_fnG (us := .ref a :: us) (vs := .ref a :: vs) F hr hb (hx σ) I3 (.cons rfl rv) rz (congrArg Nat.succ l1) l2 q3
theorem pe_mthG0 {pl : Sem Bool} (he : PE X o ta) (c : Cls X.K C) (hm : Meth X.K C m f) (F : FnG X.prog X.w X.K X.mg X.base CX k f fd ps sp) (hr : RoomG k X.A) (hb : KBn X.K fd ps (0 + 1) ks g gV) (hx : ∀ σ, PassesAt CX X σ (E σ)) (hkw : PK X kws tk)
    (hall : (backToKw pos (keywordEach kws X.env)).all (·.1.isSome) = true) (hks : (backToKw pos (keywordEach kws X.env)).filterMap (·.1) = ks)
    (hpl : ((backTo pos (starEach [] X.env)).any (·.1) || (backToKw pos (keywordEach kws X.env)).any (·.1.isNone)) = false)
    (hev : eval (.Call (.Attribute o m apos) [] kws pos) X.env = (do
      let ov ← eval o X.env
      standAt apos.atName
      let (f, first) ← holding [ov] (getMethod ov m pl)
      callWith pos f first (backTo pos (starEach [] X.env)) (backToKw pos (keywordEach kws X.env)))) : PE X (.Call (.Attribute o m apos) [] kws pos) (tMthG C m 0 ks.length sp gV E ta tNil tk) := by
  refine ⟨fun pins s σ H Q I want => PySem.W.methodCall_KW (pl := pl) (thn (he.run pins s σ H _ I want) fun u s1 ⟨x, H1, I1, rx, a, dx, fs, ex, ea, l, q⟩ => ?_) hev⟩
  subst ex
  obtain rfl : u = Value.ref a := rx
  refine getmeth_ok I1 ea c hm l (PySem.W.callWith_KW0 (first := [.ref a]) (h₀ := X.base) I.ok.mod.kin hm.kp hall (thn (hkw.run pos pins s1 σ H1 _ I1 q) fun ws s3 ⟨zs, H3, I3, rz, l1, l2, q3⟩ => ⟨I3.kIn, ?_⟩) hpl)
  rw [hks]
  exact run_fnG (us := [.ref a]) (vs := [.ref a]) F hr hb (hx σ) I3 (.cons rfl .nil) rz rfl l2 q3
end
end
end L2
namespace DD
open PySem PySem.Spec L2 RZ
/-- a class of the program, by its name -/
structure ClsV (K : PySem.W.Frag) (mg : Str → Option Value) (n : Str) (C : Addr) : Prop where
  m : mg n = some (.ref C)
  c : Cls K C
/-- the fields of an instance of a class -/
def insOf (h : Hd) (n : Str) : D → Option (List Str × List D)
  | .ref r => match h[r]? with
    | some (.ins n' ns us) => if n' = n then some (ns, us) else none
    | _ => none
  | .ins n' ns us => if n' = n then some (ns, us) else none
  | _ => none
def lookL (f : Str) : List Str → List D → Option D
  | n :: ns, u :: us => if f = n then some u else lookL f ns us
  | _, _ => none
section
variable {c : Ct} {w : Wd} {h : Hd} {H : Hp} {d : D} {v : V} {n : Str} {ns : List Str} {us : List D}
theorem insOf_ok (s : SR c w h H) (r : VR c w d v) (e : insOf h n d = some (ns, us)) : ∃ (a C dx : Addr) (fs : List (Str × V)), v = .ref a ∧ c.mg n = some (.ref C) ∧ H a = some (.ins C dx fs) ∧ ns = fs.map (·.1) ∧ VRs c w us (fs.map (·.2)) ∧ ∀ f ∈ ns, NoAttr c.K C f := by
  cases d with
  | ref k =>
    simp only [insOf] at e
    split at e
    · rename_i n' ns' us' ex
      split at e
      · rename_i en
        subst en
        simp only [Option.some.injEq, Prod.mk.injEq] at e
        obtain ⟨rfl, rfl⟩ := e
        simp only [VR] at r
        obtain ⟨a, rfl, f⟩ := r
        obtain ⟨b, q1, _, _, C, dx, fs, m, q, k, z, na⟩ := s.cell _ _ ex (by intro z; cases z)
        rw [f] at q1; cases q1
        exact ⟨a, C, dx, fs, rfl, m, q, k, z, na⟩
      · cases e
    · cases e
  | ins n' ns' us' =>
    simp only [insOf] at e
    split at e
    · rename_i en
      subst en
      simp only [Option.some.injEq, Prod.mk.injEq] at e
      obtain ⟨rfl, rfl⟩ := e
      simp only [VR] at r
      obtain ⟨a, C, dx, fs, rfl, m, q, k, z, na⟩ := r
      exact ⟨a, C, dx, fs, rfl, m, s.F _ _ q, k, z, na⟩
    · cases e
  | _ => cases e
theorem lookL_ok {f : Str} : ∀ {us : List D} {fs : List (Str × V)} {x : D}, VRs c w us (fs.map (·.2)) → lookL f (fs.map (·.1)) us = some x → ∃ v, fs.lookup f = some v ∧ VR c w x v ∧ f ∈ fs.map (·.1)
  | [], [], x, _, e => by cases e
  | [], p :: fs, x, r, e => by simp [lookL] at e
  | u :: us, [], x, r, e => by simp [lookL] at e
  | u :: us, p :: fs, x, r, e => by
    simp only [VRs, List.map_cons, List.cons.injEq] at r
    obtain ⟨v, r2, ⟨rfl, rfl⟩, rv, rr⟩ := r
    simp only [List.map_cons, lookL] at e
    rw [List.lookup_cons]
    by_cases hf : f = p.1
    · rw [if_pos hf] at e
      cases e
      have : (f == p.1) = true := by simpa using hf
      rw [this]
      exact ⟨p.2, rfl, rv, by simp [hf]⟩
    · rw [if_neg hf] at e
      have : (f == p.1) = false := by simpa using hf
      rw [this]
      obtain ⟨v, e1, e2, e3⟩ := lookL_ok rr e
      exact ⟨v, e1, e2, List.mem_cons_of_mem _ e3⟩
theorem no_meth {K : PySem.W.Frag} {C : Addr} {m : Str} {f : Addr} {fs : List (Str × V)} (hm : Meth K C m f) (na : ∀ x ∈ fs.map (·.1), NoAttr K C x) : fs.lookup m = none := by
  cases e : fs.lookup m with
  | none => rfl
  | some v =>
    have : m ∈ fs.map (·.1) := by
      clear na hm
      induction fs with
      | nil => cases e
      | cons p fs ih =>
        rw [List.lookup_cons] at e
        cases hb : m == p.1 with
        | true => simp only [List.map_cons]; rw [show m = p.1 by simpa using hb]; exact List.mem_cons_self
        | false => rw [hb] at e; exact List.mem_cons_of_mem _ (ih e)
    have n := na m this
    unfold NoAttr at n
    rw [hm.at_] at n
    cases n
end
def mFld (n f : Str) (m : ME) : ME := fun ρ h => (m ρ h).bind fun d h => optR ((insOf h n d).bind fun p => lookL f p.1 p.2) h
section
variable {X : Cx} {W : WX} {e o : Expr} {es : List Expr} {kws : List Keyword} {m mo mv : ME} {mas mks : MA} {pos apos p : Pos} {n f x : Str} {C : Addr} {k : Nat}
theorem e_fld (V : ClsV X.K X.mg n C) (he : SE X W e m) (hb : attributeBase e f X.env (eval e X.env) = eval e X.env := by rfl) : SE X W (.Attribute e f pos) (mFld n f m) := PE.imp (pe_fld he hb) fun σ H Q q => by
  refine (tP.bind q).mono fun v H1 ⟨w1, ρ, h1, d, e1, s1, r1, p1⟩ => ?_
  obtain ⟨x, ex, p2⟩ := optR_post p1
  rw [Option.bind_eq_some_iff] at ex
  obtain ⟨⟨ns, us⟩, e2, e3⟩ := ex
  obtain ⟨a, C', dx, fs, rfl, hm, q1, rfl, z, na⟩ := insOf_ok s1 r1 e2
  have hm' : X.mg n = some (.ref C') := hm
  rw [V.m] at hm'; cases hm'
  obtain ⟨y, e4, r4, e5⟩ := lookL_ok z e3
  exact ⟨a, C, dx, fs, y, rfl, q1, V.c, na f e5, e4, p2.ret r4 s1⟩
def putN (f : Str) (ns : List Str) : List Str := if f ∈ ns then ns else ns ++ [f]
def putUs (f : Str) (d : D) : List Str → List D → List D
  | n :: ns, u :: us => if n = f then d :: us else u :: putUs f d ns us
  | _, _ => [d]
theorem putF_names {f : Str} {v : V} : ∀ fs : List (Str × V), (L2.putF f v fs).map (·.1) = putN f (fs.map (·.1))
  | [] => rfl
  | (g, y) :: r => by
    unfold L2.putF
    by_cases hg : g = f
    · rw [if_pos hg]
      unfold putN
      rw [if_pos (by simp [hg])]
      rfl
    · rw [if_neg hg, List.map_cons, putF_names r]
      unfold putN
      by_cases hm : f ∈ r.map (·.1)
      · rw [if_pos hm, if_pos (by simp only [List.map_cons]; exact List.mem_cons_of_mem _ hm)]; rfl
      · rw [if_neg hm, if_neg (by simp only [List.map_cons, List.mem_cons, not_or]; exact ⟨fun z => hg z.symm, hm⟩)]; rfl
theorem putF_vals {c : Ct} {w : Wd} {f : Str} {d : D} {v : V} (rv : VR c w d v) : ∀ {us : List D} {fs : List (Str × V)}, VRs c w us (fs.map (·.2)) → VRs c w (putUs f d (fs.map (·.1)) us) ((L2.putF f v fs).map (·.2))
  | us, [], r => by
    simp only [List.map_nil] at r
    have : us = [] := by cases us with
      | nil => rfl
      | cons _ _ => simp only [VRs] at r; obtain ⟨_, _, z, _⟩ := r; cases z
    subst this
    exact .one rv
  | [], (g, y) :: r, rr => by simp [VRs] at rr
  | u :: us, (g, y) :: r, rr => by
    simp only [VRs, List.map_cons, List.cons.injEq] at rr
    obtain ⟨v', r2, ⟨rfl, rfl⟩, ru, rs⟩ := rr
    simp only [List.map_cons, putUs]
    unfold L2.putF
    by_cases hg : g = f
    · rw [if_pos hg, if_pos hg]; exact .cons rv rs
    · rw [if_neg hg, if_neg hg, List.map_cons]; exact .cons ru (putF_vals rv rs)
def fldS (n f : Str) (x d : D) (h : Hd) : Option Hd := match x with
  | .ref r => match h[r]? with
    | some (.ins n' ns us) => if n' = n ∧ ns.length < 1000 then some (h.set r (.ins n (putN f ns) (putUs f d ns us))) else none
    | _ => none
  | _ => none
def mFldS (n f : Str) (mo mv : ME) : MS := liftR (fun ρ h => (mv ρ h).bind fun d h => (mo ρ h).bind fun x h => match fldS n f x d h with
  | some h => .ok () h
  | none => .bad) fun _ ρ h => .nx ρ h
theorem s_fld (V : ClsV X.K X.mg n C) (na : NoAttr X.K C f) (ho : SE X W o mo) (hv : SE X W e mv) (hs : swapsWith e (some (.Attribute o f apos)) pos.line X.env = pure false := by rfl) : SS X W (.Assign [.Attribute o f apos] e pos) (mFldS n f mo mv) :=
  PS.imp (ps_fld ho hv hs) fun Dn σ H q => by
  have q' : tP (fun _ _ (_ : Unit) (_ : Unit) => True) (Cx.ct X) W (fun ρ h => (mv ρ h).bind fun d h => (mo ρ h).bind fun x h => match fldS n f x d h with
      | some h => .ok () h
      | none => .bad) σ H (fun _ H1 => Dn.nx σ H1) := (tS.lift q).mono fun v H1 ⟨w1, ρ, h1, d, e1, s1, r1, p1⟩ => p1.nx e1 s1
  refine (tP.bind q').mono fun v H1 ⟨w1, ρ, h1, d, e1, s1, r1, p1⟩ => ?_
  refine ⟨w1, ρ, h1, e1, s1, (Post.bind p1).mono fun vx H2 ⟨w2, h2, x, l2, r2, s2, p2⟩ => ?_⟩
  split at p2
  · rename_i h3 e3
    unfold fldS at e3
    split at e3
    · rename_i r
      split at e3
      · rename_i n' ns us ex
        split at e3
        · rename_i hn
          obtain ⟨en, hl⟩ := hn
          subst en
          cases e3
          simp only [VR] at r2
          obtain ⟨a, rfl, fr⟩ := r2
          obtain ⟨b, q1, _, _, C', dx, fs, hm, q, k, z, na'⟩ := s2.cell _ _ ex (by intro z; cases z)
          rw [fr] at q1; cases q1
          have hm' : X.mg n' = some (.ref C') := hm
          rw [V.m] at hm'; cases hm'
          subst k
          refine ⟨a, C, dx, fs, rfl, q, V.c, na, by simpa using hl, ?_⟩
          refine p2 () w2 _ (.refl _) trivial (s2.write ex (by intro z; cases z) fr ⟨C, dx, _, V.m, upd_same, (putF_names fs).symm, putF_vals (r1.le l2) z, fun g hg => ?_⟩ (by intro z; cases z))
          unfold putN at hg
          split at hg
          · exact na' g hg
          · rcases List.mem_append.mp hg with hg | hg
            · exact na' g hg
            · rw [List.mem_singleton.mp hg]; exact na
        · cases e3
      · cases e3
    · cases e3
  · exact p2.elim
end
/-- how a call of a shape fills the parameters -/
structure BnG (K : PySem.W.Frag) (mg : Str → Option Value) (fd : FuncData) (ps : List Str) (n : Nat) (ks : List Str) (gD : List D → List D → List D) : Prop where
  ex : ∃ g gV, KBn K fd ps n ks g gV ∧ ∀ (w : Wd) (ds es : List D) (vs zs : List V), VRs ⟨K, mg⟩ w ds vs → VRs ⟨K, mg⟩ w es zs → ds.length = n → es.length = ks.length → VRs ⟨K, mg⟩ w (gD ds es) (gV vs zs) ∧ (gD ds es).length = ps.length
def mCalG (n j : Nat) (gD : List D → List D → List D) (m : List D → Hd → Res D) (ma mk : MA) : ME := fun ρ h => (ma ρ h).bind fun ds h => (mk ρ h).bind fun es h => if ds.length = n ∧ es.length = j then m (gD ds es) h else .bad
def mMthG (cn : Str) (n j : Nat) (gD : List D → List D → List D) (m : List D → Hd → Res D) (mo : ME) (ma mk : MA) : ME := fun ρ h => (mo ρ h).bind fun x h => if (insOf h cn x).isSome then (ma ρ h).bind fun ds h => (mk ρ h).bind fun es h => if ds.length = n ∧ es.length = j then m (gD (x :: ds) es) h else .bad else .bad
def madeF (r : Nat) : Res D → Res D
  | .ok .non h => .ok (.ref r) h
  | .ok _ _ => .bad
  | .exc x h => .exc x h
  | .bad => .bad
def mMakG (cn : Str) (n j : Nat) (gD : List D → List D → List D) (m : List D → Hd → Res D) (ma mk : MA) : ME := fun ρ h => (ma ρ h).bind fun ds h => (mk ρ h).bind fun es h => if ds.length = n ∧ es.length = j then madeF h.length (m (gD (.ref h.length :: ds) es) (h ++ [.ins cn [] []])) else .bad
structure CalG (P : Program) (w : World) (K : PySem.W.Frag) (mg : Str → Option Value) (base : Heap) (k : Nat) (x : Str) (n : Nat) (ks : List Str) (gD : List D → List D → List D) (m : List D → Hd → Res D) : Prop where
  ex : ∃ (f : Addr) (fd : FuncData) (ps : List Str), FnG P w K mg base (L2.CX P w) k f fd ps (spM ⟨K, mg⟩ ps.length m) ∧ mg x = some (.ref f) ∧ PySem.W.keepIn K (.ref f) = true ∧ BnG K mg fd ps n ks gD
structure MthG (P : Program) (w : World) (K : PySem.W.Frag) (mg : Str → Option Value) (base : Heap) (k : Nat) (cn x : Str) (n : Nat) (ks : List Str) (gD : List D → List D → List D) (m : List D → Hd → Res D) : Prop where
  ex : ∃ (C f : Addr) (fd : FuncData) (ps : List Str), FnG P w K mg base (L2.CX P w) k f fd ps (spM ⟨K, mg⟩ ps.length m) ∧ ClsV K mg cn C ∧ Meth K C x f ∧ BnG K mg fd ps (n + 1) ks gD
structure MakG (P : Program) (w : World) (K : PySem.W.Frag) (mg : Str → Option Value) (base : Heap) (k : Nat) (cn : Str) (n : Nat) (ks : List Str) (gD : List D → List D → List D) (m : List D → Hd → Res D) : Prop where
  ex : ∃ (C f : Addr) (fd : FuncData) (ps : List Str), FnG P w K mg base (L2.CX P w) k f fd ps (spM ⟨K, mg⟩ ps.length m) ∧ ClsV K mg cn C ∧ Mk K C f ∧ BnG K mg fd ps (n + 1) ks gD
section
variable {X : Cx} {W : WX} {e o : Expr} {es : List Expr} {kws : List Keyword} {mo : ME} {mas mks : MA} {pos apos p : Pos} {cn x : Str} {k n j : Nat} {ks : List Str} {gD : List D → List D → List D} {m : List D → Hd → Res D} {sp : Sp}
theorem post_res {c : Ct} {w : Wd} {σ : L2.St} {Q : VK} {r : Res D} (p : Post (RV c) c w W σ r Q) : Post (RV c) c w (fun cls d _ H' => WE W σ cls d H') [] r Q := by
  cases r with
  | ok d h => exact p
  | exc x h => exact p
  | bad => exact p
/-- what a shape's call asks, behind the arguments -/
theorem cal_in {c : Ct} {K : PySem.W.Frag} {mg : Str → Option Value} (hc : c = ⟨K, mg⟩) {ps : List Str} {gV : List V → List V → List V} {w : Wd} {h : Hd} {H : Hp} {σ : L2.St} {Q : VK} {ds es : List D} {vs zs : List V}
    (rel : ∀ (w : Wd) (ds es : List D) (vs zs : List V), VRs ⟨K, mg⟩ w ds vs → VRs ⟨K, mg⟩ w es zs → ds.length = n → es.length = ks.length → VRs ⟨K, mg⟩ w (gD ds es) (gV vs zs) ∧ (gD ds es).length = ps.length)
    (s : SR c w h H) (r1 : VRs c w ds vs) (r2 : VRs c w es zs) (h1 : ds.length = n) (h2 : es.length = ks.length) (p : Post (RV c) c w W σ (m (gD ds es) h) Q) :
    spM ⟨K, mg⟩ ps.length m (gV vs zs) H Q (WE W σ) := by
  subst hc
  obtain ⟨a, b⟩ := rel w ds es vs zs r1 r2 h1 h2
  exact ⟨w, gD ds es, h, a, s, b, post_res p⟩
theorem e_calG (C : CalG X.prog X.w X.K X.mg X.base k x n ks gD m) (hr : RoomG k X.A) (tk : Takes X W) (ha : SA X W (e :: es) mas) (hkw : SK X W kws mks) (hj : ks.length = j := by rfl) (hg : Gl X x := by rfl) (hdb : (x == ("__debug__" : Str)) = false := by decide)
    (hks : (backToKw pos (keywordEach kws X.env)).filterMap (·.1) = ks := by rfl) (hall : (backToKw pos (keywordEach kws X.env)).all (·.1.isSome) = true := by rfl)
    (hst : starEach (e :: es) X.env = (false, eval e X.env) :: starEach es X.env := by rfl) (hpl : ((backTo pos (starEach (e :: es) X.env)).any (·.1) || (backToKw pos (keywordEach kws X.env)).any (·.1.isNone)) = false := by rfl) :
    SE X W (.Call (.Name x p) (e :: es) kws pos) (mCalG n j gD m mas mks) := by
  subst hj
  obtain ⟨f, fd, ps, F, hm, hk, ⟨g, gV, hb, rel⟩⟩ := C.ex
  refine PE.imp (pe_calG (E := WE W) F hr hg hm hk hb (passAt tk) ha hkw hall hks hdb hst hpl) fun σ H Q q => ?_
  refine (tP.bind (k := fun ρ ds h => (mks ρ h).bind fun es h => if ds.length = n ∧ es.length = ks.length then m (gD ds es) h else .bad) q).mono fun vs H1 ⟨w1, ρ, h1, ds, e1, s1, r1, p1⟩ => ?_
  refine ⟨w1, ρ, h1, e1, s1, (Post.bind p1).mono fun zs H2 ⟨w2, h2, es2, l2, r2, s2, p2⟩ => ?_⟩
  split at p2
  · rename_i hn
    exact ⟨by rw [← r1.len]; exact hn.1, by rw [← r2.len]; exact hn.2, cal_in rfl rel s2 (r1.le l2) r2 hn.1 hn.2 p2⟩
  · exact p2.elim
theorem e_mthG {pl : Sem Bool} (C : MthG X.prog X.w X.K X.mg X.base k cn x n ks gD m) (hr : RoomG k X.A) (tk : Takes X W) (ho : SE X W o mo) (ha : SA X W (e :: es) mas) (hkw : SK X W kws mks) (hj : ks.length = j := by rfl)
    (hks : (backToKw pos (keywordEach kws X.env)).filterMap (·.1) = ks := by rfl) (hall : (backToKw pos (keywordEach kws X.env)).all (·.1.isSome) = true := by rfl)
    (hst : starEach (e :: es) X.env = (false, eval e X.env) :: starEach es X.env := by rfl) (hpl : ((backTo pos (starEach (e :: es) X.env)).any (·.1) || (backToKw pos (keywordEach kws X.env)).any (·.1.isNone)) = false := by rfl)
    (hev : eval (.Call (.Attribute o x apos) (e :: es) kws pos) X.env = (do
      let ov ← eval o X.env
      standAt apos.atName
      let (f, first) ← holding [ov] (getMethod ov x pl)
      callWith pos f first (backTo pos (starEach (e :: es) X.env)) (backToKw pos (keywordEach kws X.env))) := by rfl) :
    SE X W (.Call (.Attribute o x apos) (e :: es) kws pos) (mMthG cn n j gD m mo mas mks) := by
  subst hj
  obtain ⟨C, f, fd, ps, F, V, hm, ⟨g, gV, hb, rel⟩⟩ := C.ex
  refine PE.imp (pe_mthG (E := WE W) ho V.c hm F hr hb (passAt tk) ha hkw hall hks hst hpl hev) fun σ H Q q => ?_
  refine (tP.bind (k := fun ρ x h => if (insOf h cn x).isSome then (mas ρ h).bind fun ds h => (mks ρ h).bind fun es h => if ds.length = n ∧ es.length = ks.length then m (gD (x :: ds) es) h else .bad else .bad) q).mono fun vx H1 ⟨w1, ρ, h1, dx, e1, s1, r1, p1⟩ => ?_
  split at p1
  · rename_i hi
    obtain ⟨⟨ns, us⟩, ei⟩ := Option.isSome_iff_exists.mp hi
    obtain ⟨a, C', da, fs, rfl, hcm, ha1, rfl, z, na⟩ := insOf_ok s1 r1 ei
    have hcm' : X.mg cn = some (.ref C') := hcm
    rw [V.m] at hcm'; cases hcm'
    refine ⟨a, da, fs, rfl, ha1, no_meth hm na, w1, ρ, h1, e1, s1, (Post.bind p1).mono fun vs H2 ⟨w2, h2, ds, l2, r2, s2, p2⟩ => ?_⟩
    refine ⟨w2, ρ, h2, e1.le l2, s2, (Post.bind p2).mono fun zs H3 ⟨w3, h3, es3, l3, r3, s3, p3⟩ => ?_⟩
    split at p3
    · rename_i hn
      exact ⟨by rw [← r2.len]; exact hn.1, by rw [← r3.len]; exact hn.2, cal_in (n := n + 1) rfl rel s3 (.cons (r1.le (l2.trans l3)) (r2.le l3)) r3 (congrArg Nat.succ hn.1) hn.2 p3⟩
    · exact p3.elim
  · exact p1.elim
theorem e_mthG0 {pl : Sem Bool} (C : MthG X.prog X.w X.K X.mg X.base k cn x 0 ks gD m) (hr : RoomG k X.A) (tk : Takes X W) (ho : SE X W o mo) (hkw : SK X W kws mks) (hj : ks.length = j := by rfl)
    (hks : (backToKw pos (keywordEach kws X.env)).filterMap (·.1) = ks := by rfl) (hall : (backToKw pos (keywordEach kws X.env)).all (·.1.isSome) = true := by rfl)
    (hpl : ((backTo pos (starEach [] X.env)).any (·.1) || (backToKw pos (keywordEach kws X.env)).any (·.1.isNone)) = false := by rfl)
    (hev : eval (.Call (.Attribute o x apos) [] kws pos) X.env = (do
      let ov ← eval o X.env
      standAt apos.atName
      let (f, first) ← holding [ov] (getMethod ov x pl)
      callWith pos f first (backTo pos (starEach [] X.env)) (backToKw pos (keywordEach kws X.env))) := by rfl) :
    SE X W (.Call (.Attribute o x apos) [] kws pos) (mMthG cn 0 j gD m mo aNil mks) := by
  subst hj
  obtain ⟨C, f, fd, ps, F, V, hm, ⟨g, gV, hb, rel⟩⟩ := C.ex
  refine PE.imp (pe_mthG0 (E := WE W) ho V.c hm F hr hb (passAt tk) hkw hall hks hpl hev) fun σ H Q q => ?_
  refine (tP.bind (k := fun ρ x h => if (insOf h cn x).isSome then (aNil ρ h).bind fun ds h => (mks ρ h).bind fun es h => if ds.length = 0 ∧ es.length = ks.length then m (gD (x :: ds) es) h else .bad else .bad) q).mono fun vx H1 ⟨w1, ρ, h1, dx, e1, s1, r1, p1⟩ => ?_
  split at p1
  · rename_i hi
    obtain ⟨⟨ns, us⟩, ei⟩ := Option.isSome_iff_exists.mp hi
    obtain ⟨a, C', da, fs, rfl, hcm, ha1, rfl, z, na⟩ := insOf_ok s1 r1 ei
    have hcm' : X.mg cn = some (.ref C') := hcm
    rw [V.m] at hcm'; cases hcm'
    refine ⟨a, da, fs, rfl, ha1, no_meth hm na, w1, ρ, h1, e1, s1, (Post.bind (k := fun es h => if ([] : List D).length = 0 ∧ es.length = ks.length then m (gD [dx] es) h else .bad) p1).mono fun zs H3 ⟨w3, h3, es3, l3, r3, s3, p3⟩ => ?_⟩
    split at p3
    · rename_i hn
      exact ⟨rfl, by rw [← r3.len]; exact hn.2, cal_in (n := 0 + 1) rfl rel s3 (.one (r1.le l3)) r3 rfl hn.2 p3⟩
    · exact p3.elim
  · exact p1.elim
/-- the made instance, behind its __init__ -/
theorem made_in {c : Ct} {K : PySem.W.Frag} {mg : Str → Option Value} (hc : c = ⟨K, mg⟩) {C : Addr} (vc : ClsV K mg cn C) {ps : List Str} {gV : List V → List V → List V} {w : Wd} {h : Hd} {H : Hp} {σ : L2.St} {Q : VK} {ds es : List D} {vs zs : List V}
    (rel : ∀ (w : Wd) (ds es : List D) (vs zs : List V), VRs ⟨K, mg⟩ w ds vs → VRs ⟨K, mg⟩ w es zs → ds.length = n + 1 → es.length = ks.length → VRs ⟨K, mg⟩ w (gD ds es) (gV vs zs) ∧ (gD ds es).length = ps.length)
    (s : SR c w h H) (r1 : VRs c w ds vs) (r2 : VRs c w es zs) (h1 : ds.length = n) (h2 : es.length = ks.length) (p : Post (RV c) c w W σ (madeF h.length (m (gD (.ref h.length :: ds) es) (h ++ [.ins cn [] []]))) Q) (x dx : Addr) (nx : H x = none) (nd : H dx = none) (ne : dx ≠ x) :
    spM ⟨K, mg⟩ ps.length m (gV (.ref x :: vs) zs) (upd (upd H dx (.own x)) x (.ins C dx [])) (fun v H3 => v = .non ∧ Q (.ref x) H3) (WE W σ) := by
  subst hc
  have sA := s.laid nd (.own x)
  have nx' : (upd H dx (.own x)) x = none := by rw [upd_ne (Ne.symm ne)]; exact nx
  have sB := sA.laid nx' (.ins C dx [])
  obtain ⟨l, sC, rC⟩ := sB.own (FreshAt.of s nx) (z := .ins cn [] []) (by intro z; cases z) ⟨C, dx, [], vc.m, upd_same, rfl, .nil, fun f hf => by cases hf⟩
  obtain ⟨a, b⟩ := rel _ (.ref h.length :: ds) es (.ref x :: vs) zs (.cons rC (r1.le l)) (r2.le l) (congrArg Nat.succ h1) h2
  refine ⟨_, _, _, a, sC, b, ?_⟩
  cases e : m (gD (.ref h.length :: ds) es) (h ++ [.ins cn [] []]) with
  | ok d h3 =>
    rw [e] at p
    cases d with
    | non =>
      intro v w' H' l' rv s'
      have ev : v = .non := by simpa only [RV, VR] using rv
      refine ⟨ev, p (.ref x) w' H' (l.trans l') (VR.le l' rC) s'⟩
    | _ => exact p.elim
  | exc xx hx =>
    rw [e] at p
    exact fun cls d w' H' l' s' rx => p cls d w' H' (l.trans l') s' rx
  | bad => rw [e] at p; exact p.elim
theorem e_makG (C : MakG X.prog X.w X.K X.mg X.base k x n ks gD m) (hr : RoomG (k + 1) X.A) (tk : Takes X W) (ha : SA X W (e :: es) mas) (hkw : SK X W kws mks) (hj : ks.length = j := by rfl) (hg : Gl X x := by rfl) (hdb : (x == ("__debug__" : Str)) = false := by decide)
    (hks : (backToKw pos (keywordEach kws X.env)).filterMap (·.1) = ks := by rfl) (hall : (backToKw pos (keywordEach kws X.env)).all (·.1.isSome) = true := by rfl)
    (hst : starEach (e :: es) X.env = (false, eval e X.env) :: starEach es X.env := by rfl) (hpl : ((backTo pos (starEach (e :: es) X.env)).any (·.1) || (backToKw pos (keywordEach kws X.env)).any (·.1.isNone)) = false := by rfl) :
    SE X W (.Call (.Name x p) (e :: es) kws pos) (mMakG x n j gD m mas mks) := by
  subst hj
  obtain ⟨C, f, fd, ps, F, V, M, ⟨g, gV, hb, rel⟩⟩ := C.ex
  refine PE.imp (pe_makG (E := WE W) M F hr hg V.m hb (passAt tk) ha hkw hall hks hdb hst hpl) fun σ H Q q => ?_
  refine (tP.bind (k := fun ρ ds h => (mks ρ h).bind fun es h => if ds.length = n ∧ es.length = ks.length then madeF h.length (m (gD (.ref h.length :: ds) es) (h ++ [.ins x [] []])) else .bad) q).mono fun vs H1 ⟨w1, ρ, h1, ds, e1, s1, r1, p1⟩ => ?_
  refine ⟨w1, ρ, h1, e1, s1, (Post.bind p1).mono fun zs H2 ⟨w2, h2, es2, l2, r2, s2, p2⟩ => ?_⟩
  split at p2
  · rename_i hn
    exact ⟨by rw [← r1.len]; exact hn.1, by rw [← r2.len]; exact hn.2, fun y dy ny nd ne => made_in rfl V rel s2 (r1.le l2) r2 hn.1 hn.2 p2 y dy ny nd ne⟩
  · exact p2.elim
theorem e_makG0 (C : MakG X.prog X.w X.K X.mg X.base k x 0 ks gD m) (hr : RoomG (k + 1) X.A) (tk : Takes X W) (hkw : SK X W kws mks) (hj : ks.length = j := by rfl) (hg : Gl X x := by rfl) (hdb : (x == ("__debug__" : Str)) = false := by decide)
    (hks : (backToKw pos (keywordEach kws X.env)).filterMap (·.1) = ks := by rfl) (hall : (backToKw pos (keywordEach kws X.env)).all (·.1.isSome) = true := by rfl)
    (hpl : ((backTo pos (starEach [] X.env)).any (·.1) || (backToKw pos (keywordEach kws X.env)).any (·.1.isNone)) = false := by rfl) :
    SE X W (.Call (.Name x p) [] kws pos) (mMakG x 0 j gD m aNil mks) := by
  subst hj
  obtain ⟨C, f, fd, ps, F, V, M, ⟨g, gV, hb, rel⟩⟩ := C.ex
  refine PE.imp (pe_makG0 (E := WE W) M F hr hg V.m hb (passAt tk) hkw hall hks hdb hpl) fun σ H Q q => ?_
  obtain ⟨w1, ρ, h1, e1, s1, p1⟩ := q
  refine ⟨w1, ρ, h1, e1, s1, (Post.bind (k := fun es h => if ([] : List D).length = 0 ∧ es.length = ks.length then madeF h.length (m (gD (.ref h.length :: []) es) (h ++ [.ins x [] []])) else .bad) p1).mono fun zs H2 ⟨w2, h2, es2, l2, r2, s2, p2⟩ => ?_⟩
  split at p2
  · rename_i hn
    exact ⟨rfl, by rw [← r2.len]; exact hn.2, fun y dy ny nd ne => made_in rfl V rel s2 .nil r2 hn.1 hn.2 p2 y dy ny nd ne⟩
  · exact p2.elim
end
def pickL {α : Type} (pat : List Nat) (l : List α) : List α := match pat with
  | [] => []
  | i :: pat => match l[i]? with
    | some a => a :: pickL pat l
    | none => pickL pat l
theorem pickL_vals {l : List V} {l' : List Value} (r : Vals l l') : ∀ pat : List Nat, Vals (pickL pat l) (pickL pat l')
  | [] => .nil
  | i :: pat => by
    unfold pickL
    cases e : l[i]? with
    | none =>
      have e' : l'[i]? = none := by
        rw [List.getElem?_eq_none_iff] at e ⊢
        rw [← r.length]; exact e
      rw [e']; exact pickL_vals r pat
    | some a =>
      obtain ⟨b, e', ra⟩ := r.get e
      rw [e']; exact .cons ra (pickL_vals r pat)
theorem pickL_vrs {c : Ct} {w : Wd} {l : List D} {l' : List V} (r : VRs c w l l') : ∀ pat : List Nat, VRs c w (pickL pat l) (pickL pat l')
  | [] => .nil
  | i :: pat => by
    unfold pickL
    cases e : l[i]? with
    | none =>
      have e' : l'[i]? = none := by
        rw [List.getElem?_eq_none_iff] at e ⊢
        rw [← r.len]; exact e
      rw [e']; exact pickL_vrs r pat
    | some a =>
      obtain ⟨b, e', ra⟩ := r.get e
      rw [e']; exact .cons ra (pickL_vrs r pat)
theorem pickL_len {α : Type} {l : List α} : ∀ {pat : List Nat}, (∀ i ∈ pat, i < l.length) → (pickL pat l).length = pat.length
  | [], _ => rfl
  | i :: pat, h => by
    unfold pickL
    rw [List.getElem?_eq_getElem (h i (by simp))]
    simp only [List.length_cons]
    rw [pickL_len fun j m => h j (List.mem_cons_of_mem _ m)]
@[simp] theorem pickL_nil {α : Type} (l : List α) : pickL [] l = [] := rfl
def pickK {α : Type} (pat : List Nat) (l : List α) : Option α → List α
  | some a => a :: pickL pat l
  | none => pickL pat l
@[simp] theorem pickK_some {α : Type} (pat : List Nat) (l : List α) (a : α) : pickK pat l (some a) = a :: pickL pat l := rfl
@[simp] theorem pickL_cons {α : Type} (i : Nat) (pat : List Nat) (l : List α) : pickL (i :: pat) l = pickK pat l l[i]? := by
  show (match l[i]? with | some a => _ | none => _) = _
  unfold pickK; cases l[i]? <;> rfl
/-- a def of the top (or a method of a class): its defaults as data -/
structure DefX (K : PySem.W.Frag) (mg : Str → Option Value) (x qual : Str) (st : Stmt) (dvs : List D) (kws : List (Str × D)) (f : Addr) (fd : FuncData) : Prop where
  ex : ∃ (dv : List V) (kv : List (Str × V)), FunD K x qual (defArgs st) (defBody st) (defScope st) dv kv f fd ∧ (∀ w : Wd, VRs ⟨K, mg⟩ w dvs dv) ∧ kv.map (·.1) = kws.map (·.1) ∧ ∀ w : Wd, VRs ⟨K, mg⟩ w (kws.map (·.2)) (kv.map (·.2))
section
variable {P : Program} {w : World} {K : PySem.W.Frag} {mg : Str → Option Value} {base : Heap} {x qual : Str} {st : Stmt} {ps ks N : List Str} {f : Addr} {fd : FuncData} {k n : Nat} {dvs : List D} {kws : List (Str × D)} {b : MS} {m : List D → Hd → Res D}
/-- the rule for such a def -/
theorem fn_okX (A : DefX K mg x qual st dvs kws f fd) (S : FnScope N ps (defScope st))
    (hbody : ∀ (cdv : Value) (A : Around) (outer : List PySem.Env) (s : Shared) (H : Hp) (E : XK), RoomG k (A.deeper (PyProof.Rows.envOfC qual (defScope st) s.heap.objs.size f cdv)) →
      SSs (cxOf (L2.CX P w) P w K mg base N qual (defScope st) f cdv A outer s H E) (fun cls d _ H => E cls d H) (defBody st) b) : FnG P w K mg base (L2.CX P w) (k + 1) f fd ps (spM ⟨K, mg⟩ ps.length (runB N.length b)) := by
  obtain ⟨dv, kv, F, _⟩ := A.ex
  obtain ⟨oc, od, dV, kV, doc, pm, an, cdv, ct, osl, rfl, lk, hcd, _, _⟩ := F.ex
  refine fn_ofG lk hcd S (fun vs H Q E ⟨w, ds, h, r, s, hl, p⟩ => by rw [← r.len]; exact hl) (fun A outer s H vs Q E hr ⟨w', ds, h, r, sr, hl, p⟩ => ?_)
  refine ⟨_, hbody cdv A outer s H E hr, w', startD N.length ds, h, ER.start r, sr, ?_⟩
  unfold runB at p
  cases q : b (startD N.length ds) h with
  | nx ρ h1 => rw [q] at p; exact fun σ w2 H2 l e s => p .non w2 H2 l (by simp only [VR]) s
  | rt d h1 => rw [q] at p; exact p
  | bk ρ h1 => rw [q] at p; exact p.elim
  | ct ρ h1 => rw [q] at p; exact p.elim
  | exc y ρ h1 => rw [q] at p; exact fun cls dx σ w2 H2 l e s x => p cls dx w2 H2 l s x
  | bad => rw [q] at p; exact p
/-- every parameter is given by its place -/
theorem bn_pos (A : DefX K mg x qual st [] kws f fd) (hn : ps.length = n)
    (h : ∀ (kV doc pm : Value) (an : Option Addr) (cdv ct : Value) (us : List Value), us.length = n → bindArgs (PySem.W.fnOf x qual (defArgs st) (defBody st) (defScope st) .none kV doc pm an cdv ct) ⟨us, []⟩ = pure (ps.zip us)) : BnG K mg fd ps n [] (fun ds _ => ds) := by
  obtain ⟨dv, kv, F, hd, _⟩ := A.ex
  obtain ⟨oc, od, dV, kV, doc, pm, an, cdv, ct, osl, rfl, lk, hcd, hD, hK⟩ := F.ex
  have ed : dv = [] := by
    have := (hd ⟨fun _ => none, fun _ => none, fun _ => none⟩).len
    exact List.length_eq_zero_iff.mp this.symm
  rcases hD with ⟨_, rfl⟩ | ⟨e, _⟩
  · exact ⟨fun us _ => us, fun vs _ => vs, ⟨fun s us ws _ hu hw => by
      have : ws = [] := List.length_eq_zero_iff.mp hw
      subst this
      exact .of_eq (h kV doc pm an cdv ct us hu), fun r _ => r⟩, fun w ds es vs zs r _ e _ => ⟨r, by rw [e, hn]⟩⟩
  · exact absurd ed e
/-- no default is looked for, some are given by names -/
theorem bn_all (A : DefX K mg x qual st [] kws f fd) (pat : List Nat) (hp : ∀ i ∈ pat, i < n + ks.length) (hl : pat.length = ps.length)
    (h : ∀ (kV doc pm : Value) (an : Option Addr) (cdv ct : Value) (us ws : List Value), us.length = n → ws.length = ks.length → bindArgs (PySem.W.fnOf x qual (defArgs st) (defBody st) (defScope st) .none kV doc pm an cdv ct) ⟨us, ks.zip ws⟩ = pure (ps.zip (pickL pat (us ++ ws)))) :
    BnG K mg fd ps n ks (fun ds es => pickL pat (ds ++ es)) := by
  obtain ⟨dv, kv, F, hd, _⟩ := A.ex
  obtain ⟨oc, od, dV, kV, doc, pm, an, cdv, ct, osl, rfl, lk, hcd, hD, hK⟩ := F.ex
  have ed : dv = [] := by
    have := (hd ⟨fun _ => none, fun _ => none, fun _ => none⟩).len
    exact List.length_eq_zero_iff.mp this.symm
  rcases hD with ⟨_, rfl⟩ | ⟨e, _⟩
  · exact ⟨fun us ws => pickL pat (us ++ ws), fun vs zs => pickL pat (vs ++ zs), ⟨fun s us ws _ hu hw => .of_eq (h kV doc pm an cdv ct us ws hu hw), fun r1 r2 => pickL_vals (r1.append r2) pat⟩,
      fun w ds es vs zs r1 r2 e1 e2 => ⟨pickL_vrs (r1.append r2) pat, by rw [pickL_len (by rw [List.length_append, e1, e2]; exact hp), hl]⟩⟩
  · exact absurd ed e
theorem kws_pick {kv : List (Str × V)} (e : kv.map (·.1) = kws.map (·.1)) {c : Ct} {wd : Wd} (r : VRs c wd (kws.map (·.2)) (kv.map (·.2))) : ∀ js : List Nat, VRs c wd ((pickL js kws).map (·.2)) ((pickL js kv).map (·.2)) ∧ (pickL js kv).map (·.1) = (pickL js kws).map (·.1)
  | [] => ⟨.nil, rfl⟩
  | j :: js => by
    have ih := kws_pick e r js
    have el : kv.length = kws.length := by simpa using congrArg List.length e
    unfold pickL
    cases q : kws[j]? with
    | none =>
      have q' : kv[j]? = none := by rw [List.getElem?_eq_none_iff] at q ⊢; omega
      rw [q']; exact ih
    | some p =>
      obtain ⟨v, e1, rv⟩ := r.get (i := j) (d := p.2) (by rw [List.getElem?_map, q]; rfl)
      rw [List.getElem?_map] at e1
      cases q2 : kv[j]? with
      | none => rw [q2] at e1; cases e1
      | some p2 =>
        rw [q2] at e1
        cases e1
        have e3 : p2.1 = p.1 := by
          have := congrArg (fun l => l[j]?) e
          simp only [List.getElem?_map, q, q2, Option.map_some, Option.some.injEq] at this
          exact this
        exact ⟨.cons rv ih.1, by simp only [List.map_cons]; rw [e3, ih.2]⟩
/-- the keyword-only parameters at the places js lack -/
theorem bn_kw (A : DefX K mg x qual st [] kws f fd) (hk : kws ≠ []) (js : List Nat) (hjs : ∀ j ∈ js, j < kws.length) (pat : List Nat) (hp : ∀ i ∈ pat, i < n + (js.length + ks.length)) (hl : pat.length = ps.length)
    (h : ∀ (Dd : Addr) (doc pm : Value) (an : Option Addr) (cdv ct : Value) (us mv ws : List Value), us.length = n → mv.length = js.length → ws.length = ks.length →
      KwChain Dd (((pickL js kws).map (·.1)).zip mv) (bindArgs (PySem.W.fnOf x qual (defArgs st) (defBody st) (defScope st) .none (.ref Dd) doc pm an cdv ct) ⟨us, ks.zip ws⟩) (ps.zip (pickL pat (us ++ (mv ++ ws))))) :
    BnG K mg fd ps n ks (fun ds es => pickL pat (ds ++ ((pickL js kws).map (·.2) ++ es))) := by
  obtain ⟨dv, kv, F, hd, ek, rk⟩ := A.ex
  have ed : dv = [] := by
    have := (hd ⟨fun _ => none, fun _ => none, fun _ => none⟩).len
    exact List.length_eq_zero_iff.mp this.symm
  subst ed
  have el : kv.length = kws.length := by simpa using congrArg List.length ek
  have hk' : kv ≠ [] := fun z => hk (List.length_eq_zero_iff.mp (by rw [← el, z]; rfl))
  have lj : (pickL js kv).length = js.length := pickL_len (by rw [el]; exact hjs)
  have lj2 : (pickL js kws).length = js.length := pickL_len hjs
  have nm := fun wd => kws_pick (c := ⟨K, mg⟩) ek (rk wd) js
  have nms := (nm ⟨fun _ => none, fun _ => none, fun _ => none⟩).2
  have mem : ∀ {α : Type} {l : List α} (js : List Nat), ∀ q ∈ pickL js l, q ∈ l := by
    intro α l js
    induction js with
    | nil => intro q m; cases m
    | cons j js ih =>
      intro q m
      unfold pickL at m
      cases e : l[j]? with
      | none => rw [e] at m; exact ih q m
      | some a =>
        rw [e] at m
        rcases List.mem_cons.mp m with rfl | m
        · exact List.mem_of_getElem? e
        · exact ih q m
  obtain ⟨mv, hb⟩ := F.kbinds0 (ps := ps) n ks (pickL js kv) (fun us mv ws => pickL pat (us ++ (mv ++ ws))) hk' (fun q hq => mem js q hq) (fun r1 r2 r3 => pickL_vals (r1.append (r2.append r3)) pat)
    fun D doc pm an cdv ct us mv ws e1 e2 e3 => by
      have := h D doc pm an cdv ct us mv ws e1 (by rw [e2, lj]) e3
      rw [← nms] at this
      exact this
  refine ⟨_, _, hb, fun wd ds es vs zs r1 r2 e1 e2 => ⟨pickL_vrs (r1.append ((nm wd).1.append r2)) pat, ?_⟩⟩
  rw [pickL_len, hl]
  rw [List.length_append, List.length_append, List.length_map, e1, e2, lj2]
  exact hp
/-- defaults behind the places, no keyword-only parameters -/
theorem bn_dfl (A : DefX K mg x qual st dvs [] f fd) (hd0 : dvs ≠ []) (pat : List Nat) (hp : ∀ i ∈ pat, i < n + (dvs.length + ks.length)) (hl : pat.length = ps.length)
    (h : ∀ (T : Addr) (kV doc pm : Value) (an : Option Addr) (cdv ct : Value) (us its ws : List Value), us.length = n → its.length = dvs.length → ws.length = ks.length →
      ∃ k, bindArgs (PySem.W.fnOf x qual (defArgs st) (defBody st) (defScope st) (.ref T) kV doc pm an cdv ct) ⟨us, ks.zip ws⟩ = seqItems? (.ref T) >>= k ∧ k (some its.toArray) = pure (ps.zip (pickL pat (us ++ (its ++ ws))))) :
    BnG K mg fd ps n ks (fun ds es => pickL pat (ds ++ (dvs ++ es))) := by
  obtain ⟨dv, kv, F, hd, ek, rk⟩ := A.ex
  have el : dvs.length = dv.length := (hd ⟨fun _ => none, fun _ => none, fun _ => none⟩).len
  obtain ⟨its, hb⟩ := F.kbindsD (ps := ps) n ks (fun us its ws => pickL pat (us ++ (its ++ ws))) (fun z => hd0 (List.length_eq_zero_iff.mp (by rw [el, z]; rfl))) (fun r1 r2 r3 => pickL_vals (r1.append (r2.append r3)) pat)
    fun T kV doc pm an cdv ct us its ws e1 e2 e3 => h T kV doc pm an cdv ct us its ws e1 (by rw [e2, el]) e3
  refine ⟨_, _, hb, fun wd ds es vs zs r1 r2 e1 e2 => ⟨pickL_vrs (r1.append ((hd wd).append r2)) pat, ?_⟩⟩
  rw [pickL_len, hl]
  rw [List.length_append, List.length_append, e1, e2]
  exact hp
end
end DD
namespace L2
open PySem PySem.Spec PyProof.Rows
def Itit (d : Addr) (o : Obj) (kvs : List (List Key × V)) : It :=
  ⟨fun i H => H d = some (.frz o (.dT kvs)) ∧ i < kvs.length,
  fun i H x H' => ∃ T k v q, kvs[i]? = some (k, v) ∧ x = .ref T ∧ H q = some (.tup (k.map kV)) ∧ H T = none ∧ H' = upd H T (.tup [.ref q, v]),
  fun i H => H d = some (.frz o (.dT kvs)) ∧ kvs.length ≤ i⟩
section
variable {X : Cx} {pins : List (Addr × Obj)} {σ : St} {H : Hp} {s : Shared} {d : Addr} {o : Obj}
theorem Inv.frzTV {kvs : List (List Key × V)} (I : Inv X pins σ H s) (h : H d = some (.frz o (.dT kvs))) :
    (d == sysModules) = false ∧ ∃ (es : Array DictEntry) (ep : Nat), o.data = .dict es ep ∧ s.heap.DictRaw d es ep ∧ es.size = kvs.length ∧
      ∀ (i : Nat) (k : List Key) (v : V), kvs[i]? = some (k, v) → ∃ (en : DictEntry) (q : Addr), es[i]? = some en ∧ en.key = .ref q ∧ RelV v en.val ∧ H q = some (.tup (k.map kV)) := by
  obtain ⟨hd, z, hs, xs, pr, o', es, ep, ho, hx, hdt, he, _⟩ := I.hok d _ h
  rw [hd] at ho
  cases ho
  refine ⟨hs, es, ep, hdt, ⟨o, hd, hx, hdt⟩, ?_, fun i k v e => ?_⟩
  · have l1 : es.size = xs.length := size_of_entries he
    have l2 : kvs.length = xs.length := Paired.length pr
    omega
  · obtain ⟨b, hb, e1, e2, e3⟩ := paired_get pr e
    have q := entry_at he i
    rw [hb] at q
    exact ⟨_, b.2.1, q, rfl, e3, e2⟩
end
theorem turn_itemsT {P : Program} {w : World} {K : PySem.W.Frag} {d : Addr} {o : Obj} {es : Array DictEntry} {ep : Nat} {kvs : List (List Key × V)} {elts : List Expr} {kk : Nat} {tpos : Pos} (it : Addr) (hod : o.data = .dict es ep) :
    Turn P w K (.Tuple elts kk tpos) (Itit d o kvs) [it] it (fun i h => ∃ ok ov, IsItemIter h it d i kvs.length ep ok ov) where
  mem := List.mem_singleton.mpr rfl
  obj := fun i h st b hb => by
    cases List.mem_singleton.mp hb
    obtain ⟨ok, ov, e⟩ := st
    exact ⟨_, e, fun v z => nomatch z⟩
  keep := fun i h h' ⟨ok, ov, e⟩ k => ⟨ok, ov, k it (List.mem_singleton.mpr rfl) _ e⟩
  item := by
    intro X hP hw hK hc i pins s σ H E I hf st hg
    cases hP; cases hw; cases hK
    obtain ⟨hd, hi⟩ := hg
    obtain ⟨hs, es', ep', hdt, raw, hsz, ent⟩ := I.frzTV hd
    obtain ⟨rfl, rfl⟩ := dict_ep hod hdt
    obtain ⟨⟨k, v⟩, hkv⟩ : ∃ p, kvs[i]? = some p := ⟨_, List.getElem?_eq_getElem hi⟩
    obtain ⟨en, q, hen, hkey, hval, hq⟩ := ent i k v hkv
    obtain ⟨ok, ov, he⟩ := st
    have hit : IsItemIter s.heap it d i es'.size ep' ok ov := hsz ▸ he
    have hlt : it < s.heap.objs.size := Heap.lt_size he
    have hi' : i < es'.size := by omega
    have hen' : es'[i] = en := by
      have := (Array.getElem?_eq_getElem hi').symm.trans hen
      exact Option.some.inj this
    refine wpAny_pyNext_items_item_raw hit raw hi' fun h' ho hT hz hk => ⟨_, rfl, wpAny_letOwnedTupleGo_items (s := { s with heap := h' }) ho fun h2 he2 sb => ?_⟩
    rw [hen'] at hT he2
    have hT2 : h2.get? s.heap.objs.size = some { cls := .type "tuple", data := .seq #[en.key, en.val] } := (sb.2 _ (Nat.ne_of_gt hlt)).trans hT
    have new : ObjOk X.prog X.w (upd H s.heap.objs.size (.tup [.ref q, v])) h2 s.heap.objs.size (.tup [.ref q, v]) :=
      ⟨(by show 2 ≤ sizeLine; decide), [en.key, en.val], .cons hkey (.cons hval .nil), ⟨_, hT2, rfl, _, rfl⟩⟩
    have J : Inv X pins σ (upd H s.heap.objs.size (.tup [.ref q, v])) { s with heap := h2 } :=
      I.turnedNew (t' := s.toks) (ch := [it]) (fun b ob hb e => (sb.2 b (fun z => hb (by rw [z]; exact List.mem_singleton.mpr rfl))).trans (hk b ob (fun z => hb (by rw [z]; exact List.mem_singleton.mpr rfl)) e)) hf (Nat.le_refl _) new
    refine ⟨.ref s.heap.objs.size, _, J, rfl, ⟨_, k, v, q, hkv, rfl, hq, I.hok.fresh (Nat.le_refl _), rfl⟩, ⟨en.key, en.val, hsz ▸ he2⟩, fun b hb => ?_⟩
    cases List.mem_singleton.mp hb
    rw [upd_ne (Nat.ne_of_lt hlt)]
    exact (hf _ (List.mem_singleton.mpr rfl)).1
  done := by
    intro X hP hw hK hc i pins s σ H E I hf st hg
    cases hP; cases hw; cases hK
    obtain ⟨hd, hi⟩ := hg
    obtain ⟨f0, f1, f2, f3, f4, f5⟩ := hf it (List.mem_singleton.mpr rfl)
    obtain ⟨hs, es', ep', hdt, raw, hsz, ent⟩ := I.frzTV hd
    obtain ⟨rfl, rfl⟩ := dict_ep hod hdt
    obtain ⟨ok, ov, he⟩ := st
    have hit : IsItemIter s.heap it d i es'.size ep' ok ov := hsz ▸ he
    exact wpAny_pyNext_items_end_raw (I.ok.hd hc) hit raw (by omega) fun h' eb => ⟨rfl, I.turned (t' := s.toks) (fun b ob hb e => eb b ob hb e) f0 f1 f3 f4 f5⟩
  self := fun A i s Q E ⟨_, _, e⟩ h => PySem.W.kcp_self e h
def iItemsT (td : TE) : TI := fun σ H R => td σ H fun x H1 => ∃ d o kvs, x = .ref d ∧ H1 d = some (.frz o (.dT kvs)) ∧ R (Itit d o kvs) H1
theorem pi_itemsT {X : Cx} {e : Expr} {td : TE} {apos cpos : Pos} {elts : List Expr} {kk : Nat} {tpos : Pos} (he : PE X e td) (hb : attributeBase e "items" X.env (eval e X.env) = eval e X.env) (hl : (apos.endLine == cpos.line) = true) :
    PI X (.Tuple elts kk tpos) (.Call (.Attribute e "items" apos) [] [] cpos) (iItemsT td) := by
  refine ⟨fun pins s σ H R I h => wpAny_Call_method (T := "dict") (id := "dict.items") hb rfl hl F.plainAttrs_dict F.slot_dict_items F.type_dict_items (thn (he.run pins s σ H _ I h) fun u s1 ⟨x, H1, I1, rx, d, o, kvs, ex, hd, q⟩ => ?_)⟩
  subst ex
  obtain rfl : u = Value.ref d := rx
  obtain ⟨hs, es, ep, hdt, raw, hsz, ent⟩ := I1.frzTV hd
  have ty : s1.TypeIs (.ref d) "dict" := raw.typeIs
  refine ⟨ty, fun b z => ?_, ?_⟩
  · cases z
    obtain ⟨ob, e1, e2, _⟩ := id raw
    exact ⟨ob, e1, e2.2.1⟩
  have J : Inv X pins σ H1 { s1 with heap := s1.heap.push { cls := .type "dict_items", data := .fields #[.ref d] } } := I1.kept (t' := s1.toks) fun b ob q => Heap.get?_push_of_some _ q
  have fin : wpAny (model X.prog X.w) X.A (pyIter (.ref s1.heap.objs.size)) (PIE X pins σ (.Tuple elts kk tpos) R) X.xe { s1 with heap := s1.heap.push { cls := .type "dict_items", data := .fields #[.ref d] } } := by
    refine wpAny_pyIter_items_raw (d := d) (es := es) (ep := ep) ⟨_, Heap.get?_push_size _ rfl, rfl, rfl⟩ (raw.at fun _ e => Heap.get?_push_of_some _ e) (pi_one (tk := s1.toks) J _ (turn_itemsT _ hdt) ⟨.none, .none, ?_⟩ q)
    rw [← hsz]
    exact Heap.get?_push_size _ rfl
  show wpAny _ _ (callWith cpos (.builtin "dict.items") [.ref d] [] []) _ X.xe s1
  exact method_meetsIn F.slot_dict_items F.entry_dict_items rfl (PySem.evalArgs_none ⟨rfl, ty, F.args_dict_items_1 _, _, meets_dict_items_raw d hs, ⟨es, ep, raw⟩, fin⟩)
end L2
namespace DD
open PySem PySem.Spec L2 RZ
section
variable {c : Ct} {w : Wd} {h : Hd} {H : Hp}
/-- a tuple that lies there is taken as frozen -/
theorem SR.adopt {q : Addr} {vs : List V} (s : SR c w h H) (e : H q = some (.tup vs)) : ∃ w', Le w w' ∧ SR c w' h H ∧ w'.F q = some (.tup vs) := by
  cases f : w.F q with
  | some o =>
    have := s.F q o f
    rw [e] at this; cases this
    exact ⟨w, .refl w, s, f⟩
  | none =>
    have fr : FreshAt w q := ⟨f, by
      cases p : w.P q with
      | none => rfl
      | some o =>
        have := s.P q o p
        rw [e] at this; cases this
        exact absurd rfl ((s.tab.nP q _ p).2 vs), fun r z => by
      obtain ⟨lt, _⟩ := s.dom r q z
      have ez : h[r]? = some h[r] := List.getElem?_eq_getElem lt
      by_cases g : h[r] = .gone
      · rw [g] at ez
        obtain ⟨o, eo, _⟩ := s.ng r q ez z
        rw [f] at eo; cases eo
      · obtain ⟨b, q1, _, _, k⟩ := s.cell r _ ez g
        rw [z] at q1; cases q1
        generalize h[r] = cell at k g
        cases cell with
        | gone => exact g rfl
        | lst xs => obtain ⟨_, k, _⟩ := k; rw [e] at k; cases k
        | dct ks us => obtain ⟨_, k, _⟩ := k; rw [e] at k; cases k
        | dtt ks us => obtain ⟨_, k, _⟩ := k; rw [e] at k; cases k
        | lkd ks us => obtain ⟨_, _, k, _⟩ := k; rw [e] at k; cases k
        | lkt ks us => obtain ⟨_, _, k, _⟩ := k; rw [e] at k; cases k
        | ins n ns us => obtain ⟨_, _, _, _, k, _⟩ := k; rw [e] at k; cases k⟩
    obtain ⟨l, s'⟩ := s.fz fr e (plain_tup vs)
    exact ⟨_, l, s', upd_same⟩
theorem key_VR {d : D} {k : Key} (e : keyD d = some k) : VR c w d (kV k) := by
  cases d <;> simp [keyD] at e <;> (subst e; simp only [VR]; rfl)
theorem keys_VR : ∀ {ds : List D} {ks : List Key}, keysD ds = some ks → VRs c w ds (ks.map kV)
  | [], ks, e => by simp [keysD] at e; subst e; exact .nil
  | d :: ds, ks, e => by
    unfold keysD at e
    split at e
    · rename_i k l e1 e2
      cases e
      exact .cons (key_VR e1) (keys_VR e2)
    · cases e
theorem tkey_VR {d : D} {k : List Key} {q : Addr} (e : tkeyD d = some k) (f : w.F q = some (.tup (k.map kV))) : VR c w d (.ref q) := by
  cases d with
  | tup xs =>
    have e' : keysD xs = some k := e
    simp only [VR]
    exact ⟨q, _, rfl, f, keys_VR e'⟩
  | _ => cases e
theorem get_map {α β : Type} {f : D → Option α} {ks : List D} {kvs : List (α × β)} {i : Nat} {p : α × β} (e : ks.map f = kvs.map (fun p => some p.1)) (g : kvs[i]? = some p) : ∃ d, ks[i]? = some d ∧ f d = some p.1 := by
  have := congrArg (fun l => l[i]?) e
  simp only [List.getElem?_map, g, Option.map_some] at this
  cases q : ks[i]? with
  | none => rw [q] at this; cases this
  | some d => rw [q] at this; exact ⟨d, rfl, Option.some.inj this⟩
theorem srcKeys {a : Addr} {od : Obj} {ks us : List D} {kvs : List (Key × V)} (f : ∀ w2 h2 H2, Le1 w w2 → SR c w2 h2 H2 → H2 a = some (.frz od (.dK kvs))) (e : ks.map keyD = kvs.map (fun p => some p.1)) : SrcOk c w ⟨ks, fun _ => True⟩ (Itk a od kvs) := by
  have el : kvs.length = ks.length := by simpa using (congrArg List.length e).symm
  refine ⟨fun H => H a = some (.frz od (.dK kvs)), fun i H x H' => H' = H ∧ ∃ k v, kvs[i]? = some (k, v) ∧ x = kV k, ⟨fun i H hi g => ⟨g, by rw [el]; exact hi⟩, fun H g => ⟨g, by rw [el]; exact Nat.le_refl _⟩, fun i H x H' _ _ y => y⟩, fun w2 h2 H2 l s _ => f w2 h2 H2 l s, fun i x H2 H3 w2 h2 hi l s _ y => ?_⟩
  obtain ⟨rfl, k, v, g, rfl⟩ := y
  obtain ⟨d, e1, e2⟩ := get_map e g
  exact ⟨w2, d, .refl _, s, e1, key_VR e2⟩
theorem srcKeysT {a : Addr} {od : Obj} {ks us : List D} {kvs : List (List Key × V)} (f : ∀ w2 h2 H2, Le1 w w2 → SR c w2 h2 H2 → H2 a = some (.frz od (.dT kvs))) (e : ks.map tkeyD = kvs.map (fun p => some p.1)) : SrcOk c w ⟨ks, fun _ => True⟩ (Itkt a od kvs) := by
  have el : kvs.length = ks.length := by simpa using (congrArg List.length e).symm
  refine ⟨fun H => H a = some (.frz od (.dT kvs)), fun i H x H' => H' = H ∧ ∃ (k : List Key) (v : V) (q : Addr), kvs[i]? = some (k, v) ∧ x = .ref q ∧ H q = some (.tup (k.map kV)), ⟨fun i H hi g => ⟨g, by rw [el]; exact hi⟩, fun H g => ⟨g, by rw [el]; exact Nat.le_refl _⟩, fun i H x H' _ _ y => y⟩, fun w2 h2 H2 l s _ => f w2 h2 H2 l s, fun i x H2 H3 w2 h2 hi l s _ y => ?_⟩
  obtain ⟨rfl, k, v, q, g, rfl, hq⟩ := y
  obtain ⟨d, e1, e2⟩ := get_map e g
  obtain ⟨w3, l3, s3, f3⟩ := s.adopt hq
  exact ⟨w3, d, l3, s3, e1, tkey_VR e2 f3⟩
def pairsD (ks us : List D) : List D := (ks.zip us).map fun p => .tup [p.1, p.2]
theorem pairsD_at {ks us : List D} {i : Nat} {k u : D} (e1 : ks[i]? = some k) (e2 : us[i]? = some u) : (pairsD ks us)[i]? = some (.tup [k, u]) := by
  unfold pairsD
  have z : (ks.zip us)[i]? = some (k, u) := by simp [List.getElem?_zip_eq_some, e1, e2]
  rw [List.getElem?_map, z]; rfl
theorem pairsD_len {ks us : List D} (e : us.length = ks.length) : (pairsD ks us).length = ks.length := by simp [pairsD, e]
theorem srcItems {a : Addr} {od : Obj} {ks us : List D} {kvs : List (Key × V)} (f : ∀ w2 h2 H2, Le1 w w2 → SR c w2 h2 H2 → H2 a = some (.frz od (.dK kvs))) (e : ks.map keyD = kvs.map (fun p => some p.1)) (r : VRs c w us (kvs.map (·.2))) : SrcOk c w ⟨pairsD ks us, fun _ => True⟩ (Iti a od kvs) := by
  have el : kvs.length = ks.length := by simpa using (congrArg List.length e).symm
  have ul : us.length = ks.length := by rw [r.len, List.length_map, el]
  refine ⟨fun H => H a = some (.frz od (.dK kvs)), fun i H x H' => ∃ T k v, kvs[i]? = some (k, v) ∧ x = .ref T ∧ H T = none ∧ H' = upd H T (.tup [kV k, v]), ⟨fun i H hi g => ⟨g, by rw [el, ← pairsD_len ul]; exact hi⟩, fun H g => ⟨g, by rw [el, pairsD_len ul]; exact Nat.le_refl _⟩, fun i H x H' _ _ y => y⟩, fun w2 h2 H2 l s _ => f w2 h2 H2 l s, fun i x H2 H3 w2 h2 hi l s _ y => ?_⟩
  obtain ⟨T, k, v, g, rfl, hT, rfl⟩ := y
  obtain ⟨d, e1, e2⟩ := get_map e g
  obtain ⟨u, e3, ru⟩ := r.get' (i := i) (v := v) (by rw [List.getElem?_map, g]; rfl)
  obtain ⟨w3, l3, s3, r3⟩ := new_tup s (VRs.cons (key_VR (c := c) (w := w2) e2) (.one (ru.le0 l.toLe0))) hT
  exact ⟨w3, .tup [d, u], l3, s3, pairsD_at e1 e3, r3⟩
theorem srcItemsT {a : Addr} {od : Obj} {ks us : List D} {kvs : List (List Key × V)} (f : ∀ w2 h2 H2, Le1 w w2 → SR c w2 h2 H2 → H2 a = some (.frz od (.dT kvs))) (e : ks.map tkeyD = kvs.map (fun p => some p.1)) (r : VRs c w us (kvs.map (·.2))) : SrcOk c w ⟨pairsD ks us, fun _ => True⟩ (Itit a od kvs) := by
  have el : kvs.length = ks.length := by simpa using (congrArg List.length e).symm
  have ul : us.length = ks.length := by rw [r.len, List.length_map, el]
  refine ⟨fun H => H a = some (.frz od (.dT kvs)), fun i H x H' => ∃ T k v q, kvs[i]? = some (k, v) ∧ x = .ref T ∧ H q = some (.tup (k.map kV)) ∧ H T = none ∧ H' = upd H T (.tup [.ref q, v]), ⟨fun i H hi g => ⟨g, by rw [el, ← pairsD_len ul]; exact hi⟩, fun H g => ⟨g, by rw [el, pairsD_len ul]; exact Nat.le_refl _⟩, fun i H x H' _ _ y => y⟩, fun w2 h2 H2 l s _ => f w2 h2 H2 l s, fun i x H2 H3 w2 h2 hi l s _ y => ?_⟩
  obtain ⟨T, k, v, q, g, rfl, hq, hT, rfl⟩ := y
  obtain ⟨d, e1, e2⟩ := get_map e g
  obtain ⟨u, e3, ru⟩ := r.get' (i := i) (v := v) (by rw [List.getElem?_map, g]; rfl)
  obtain ⟨w3, l3, s3, f3⟩ := s.adopt hq
  obtain ⟨w4, l4, s4, r4⟩ := new_tup s3 (VRs.cons (tkey_VR e2 f3) (.one ((ru.le0 l.toLe0).le l3))) hT
  exact ⟨w4, .tup [d, u], l3.trans l4, s4, pairsD_at e1 e3, r4⟩
end
/-- what a for walks: also a frozen dict's keys -/
def srcOfD (h : Hd) : D → Option Src
  | .dct ks _ => some ⟨ks, fun _ => True⟩
  | .dtt ks _ => some ⟨ks, fun _ => True⟩
  | .ref r => match h[r]? with
    | some (.lkd ks _) => some ⟨ks, fun _ => True⟩
    | some (.lkt ks _) => some ⟨ks, fun _ => True⟩
    | _ => srcOf h (.ref r)
  | d => srcOf h d
/-- what is frozen, what is locked, is there in all later states -/
theorem at_F {c : Ct} {w : Wd} {a : Addr} {o : HO} (f : w.F a = some o) : ∀ w2 h2 H2, Le1 w w2 → SR c w2 h2 H2 → H2 a = some o := fun w2 h2 H2 l s => s.F _ _ (l.F _ _ f)
theorem at_P {c : Ct} {w : Wd} {a : Addr} {o : HO} (f : w.P a = some o) (n : isFz o = true) : ∀ w2 h2 H2, Le1 w w2 → SR c w2 h2 H2 → H2 a = some o := fun w2 h2 H2 l s => s.P _ _ (l.K _ _ f n)
/-- a locked cell's place -/
theorem lk_at {c : Ct} {w : Wd} {h : Hd} {H : Hp} {r : Nat} {z : Cell} {v : V} (s : SR c w h H) (rx : VR c w (.ref r) v) (e : h[r]? = some z) (lz : isLk z = true) (g : z ≠ .gone) : ∃ a o, v = .ref a ∧ w.P a = some o ∧ H a = some o ∧ CellOk c w H a z := by
  simp only [VR] at rx
  obtain ⟨a, rfl, f⟩ := rx
  obtain ⟨b, q1, q2, q3, q4⟩ := s.cell r z e g
  rw [f] at q1; cases q1
  rw [lz] at q3
  obtain ⟨o, eo⟩ := Option.isSome_iff_exists.mp q3
  exact ⟨a, o, rfl, eo, s.P a o eo, q4⟩
def mIterD (m : ME) : MI := fun ρ h => (m ρ h).bind fun d h => optR (srcOfD h d) h
/-- d.items() -/
def itemsD (h : Hd) : D → Option Src
  | .dct ks us => some ⟨pairsD ks us, fun _ => True⟩
  | .dtt ks us => some ⟨pairsD ks us, fun _ => True⟩
  | .ref r => match h[r]? with
    | some (.lkd ks us) => some ⟨pairsD ks us, fun _ => True⟩
    | some (.lkt ks us) => some ⟨pairsD ks us, fun _ => True⟩
    | _ => none
  | _ => none
def mItems (m : ME) : MI := fun ρ h => (m ρ h).bind fun d h => optR (itemsD h d) h
section
variable {X : Cx} {W : WX} {e a : Expr} {ma : ME} {apos cpos : Pos}
theorem i_anyD {tg : Expr} (ha : SE X W a ma) : SI X W tg a (mIterD ma) := PI.imp (PI.or (pi_any ha) (pi_keys ha)) fun σ H R q => by
  obtain ⟨w, ρ, h, er, s, p⟩ := q
  unfold mIterD at p
  cases e1 : ma ρ h with
  | bad => rw [e1] at p; exact p.elim
  | exc x h1 =>
    rw [e1] at p
    exact .inl ⟨w, ρ, h, er, s, by rw [e1]; exact p⟩
  | ok d h1 =>
    rw [e1] at p
    have p' : Post (fun w _ s J => SrcOk (Cx.ct X) w s J) (Cx.ct X) w W σ (optR (srcOfD h1 d) h1) R := p
    cases d with
    | dct ks us =>
      refine .inr ⟨w, ρ, h, er, s, ?_⟩
      rw [e1]
      intro v w1 H1 l r s1
      simp only [VR] at r
      obtain ⟨a, od, kvs, rfl, f, k, z⟩ := r
      exact ⟨a, od, rfl, .inl ⟨kvs, s1.F _ _ f, p' _ w1 H1 l (srcKeys (us := us) (at_F f) k) s1⟩⟩
    | dtt ks us =>
      refine .inr ⟨w, ρ, h, er, s, ?_⟩
      rw [e1]
      intro v w1 H1 l r s1
      simp only [VR] at r
      obtain ⟨a, od, kvs, rfl, f, k, z⟩ := r
      exact ⟨a, od, rfl, .inr ⟨kvs, s1.F _ _ f, p' _ w1 H1 l (srcKeysT (us := us) (at_F f) k) s1⟩⟩
    | ref r =>
      by_cases lk : ∃ z, h1[r]? = some z ∧ isLk z = true
      · obtain ⟨z, ez, lz⟩ := lk
        refine .inr ⟨w, ρ, h, er, s, ?_⟩
        rw [e1]
        intro v w1 H1 l rv s1
        obtain ⟨a, o, rfl, pa, ea, k⟩ := lk_at s1 rv ez lz (by rintro rfl; cases lz)
        cases z with
        | lkd ks us =>
          obtain ⟨od, kvs, q, kk, z⟩ := k
          rw [q] at ea; cases ea
          have p2 : Post (fun w _ s J => SrcOk (Cx.ct X) w s J) (Cx.ct X) w W σ (.ok ⟨ks, fun _ => True⟩ h1) R := by
            have : srcOfD h1 (.ref r) = some ⟨ks, fun _ => True⟩ := by simp only [srcOfD, ez]
            rw [this] at p'; exact p'
          exact ⟨a, od, rfl, .inl ⟨kvs, q, p2 _ w1 H1 l (srcKeys (us := us) (at_P pa rfl) kk) s1⟩⟩
        | lkt ks us =>
          obtain ⟨od, kvs, q, kk, z⟩ := k
          rw [q] at ea; cases ea
          have p2 : Post (fun w _ s J => SrcOk (Cx.ct X) w s J) (Cx.ct X) w W σ (.ok ⟨ks, fun _ => True⟩ h1) R := by
            have : srcOfD h1 (.ref r) = some ⟨ks, fun _ => True⟩ := by simp only [srcOfD, ez]
            rw [this] at p'; exact p'
          exact ⟨a, od, rfl, .inr ⟨kvs, q, p2 _ w1 H1 l (srcKeysT (us := us) (at_P pa rfl) kk) s1⟩⟩
        | _ => cases lz
      · have e2 : srcOfD h1 (.ref r) = srcOf h1 (.ref r) := by
          cases q : h1[r]? with
          | none => simp only [srcOfD, q]
          | some z =>
            cases z with
            | lkd ks us => exact absurd ⟨_, q, rfl⟩ lk
            | lkt ks us => exact absurd ⟨_, q, rfl⟩ lk
            | _ => simp only [srcOfD, q]
        rw [e2] at p'
        have q2 : tI (Cx.ct X) W (mIter ma) σ H R := ⟨w, ρ, h, er, s, by unfold mIter; rw [e1]; exact p'⟩
        exact .inl (any_rd q2)
    | _ =>
      have q2 : tI (Cx.ct X) W (mIter ma) σ H R := ⟨w, ρ, h, er, s, by unfold mIter; rw [e1]; exact p'⟩
      exact .inl (any_rd q2)
theorem i_items {elts : List Expr} {kk : Nat} {tpos : Pos} (ha : SE X W a ma) (hb : attributeBase a "items" X.env (eval a X.env) = eval a X.env := by rfl) (hl : (apos.endLine == cpos.line) = true := by rfl) :
    SI X W (.Tuple elts kk tpos) (.Call (.Attribute a "items" apos) [] [] cpos) (mItems ma) := PI.imp (PI.or (pi_items ha hb hl) (pi_itemsT ha hb hl)) fun σ H R q => by
  obtain ⟨w, ρ, h, er, s, p⟩ := q
  unfold mItems at p
  cases e1 : ma ρ h with
  | bad => rw [e1] at p; exact p.elim
  | exc x h1 => rw [e1] at p; exact .inl ⟨w, ρ, h, er, s, by rw [e1]; exact p⟩
  | ok d h1 =>
    rw [e1] at p
    have p' : Post (fun w _ s J => SrcOk (Cx.ct X) w s J) (Cx.ct X) w W σ (optR (itemsD h1 d) h1) R := p
    cases d with
    | dct ks us =>
      refine .inl ⟨w, ρ, h, er, s, ?_⟩
      rw [e1]
      intro v w1 H1 l r s1
      simp only [VR] at r
      obtain ⟨a, od, kvs, rfl, f, k, z⟩ := r
      exact ⟨a, od, kvs, rfl, s1.F _ _ f, p' _ w1 H1 l (srcItems (at_F f) k z) s1⟩
    | dtt ks us =>
      refine .inr ⟨w, ρ, h, er, s, ?_⟩
      rw [e1]
      intro v w1 H1 l r s1
      simp only [VR] at r
      obtain ⟨a, od, kvs, rfl, f, k, z⟩ := r
      exact ⟨a, od, kvs, rfl, s1.F _ _ f, p' _ w1 H1 l (srcItemsT (at_F f) k z) s1⟩
    | ref r =>
      by_cases lk : ∃ z, h1[r]? = some z ∧ isLk z = true
      · obtain ⟨z, ez, lz⟩ := lk
        cases z with
        | lkd ks us =>
          refine .inl ⟨w, ρ, h, er, s, ?_⟩
          rw [e1]
          intro v w1 H1 l rv s1
          obtain ⟨a, o, rfl, pa, ea, od, kvs, q, kk, z⟩ := lk_at s1 rv ez lz (by intro z; cases z)
          rw [q] at ea; cases ea
          have p2 : Post (fun w _ s J => SrcOk (Cx.ct X) w s J) (Cx.ct X) w W σ (.ok ⟨pairsD ks us, fun _ => True⟩ h1) R := by
            have : itemsD h1 (.ref r) = some ⟨pairsD ks us, fun _ => True⟩ := by simp only [itemsD, ez]
            rw [this] at p'; exact p'
          exact ⟨a, od, kvs, rfl, q, p2 _ w1 H1 l (srcItems (at_P pa rfl) kk z) s1⟩
        | lkt ks us =>
          refine .inr ⟨w, ρ, h, er, s, ?_⟩
          rw [e1]
          intro v w1 H1 l rv s1
          obtain ⟨a, o, rfl, pa, ea, od, kvs, q, kk, z⟩ := lk_at s1 rv ez lz (by intro z; cases z)
          rw [q] at ea; cases ea
          have p2 : Post (fun w _ s J => SrcOk (Cx.ct X) w s J) (Cx.ct X) w W σ (.ok ⟨pairsD ks us, fun _ => True⟩ h1) R := by
            have : itemsD h1 (.ref r) = some ⟨pairsD ks us, fun _ => True⟩ := by simp only [itemsD, ez]
            rw [this] at p'; exact p'
          exact ⟨a, od, kvs, rfl, q, p2 _ w1 H1 l (srcItemsT (at_P pa rfl) kk z) s1⟩
        | _ => cases lz
      · have e2 : itemsD h1 (.ref r) = none := by
          cases q : h1[r]? with
          | none => simp only [itemsD, q]
          | some z =>
            cases z with
            | lkd ks us => exact absurd ⟨_, q, rfl⟩ lk
            | lkt ks us => exact absurd ⟨_, q, rfl⟩ lk
            | _ => simp only [itemsD, q]
        rw [e2] at p'
        exact p'.elim
    | _ => exact p'.elim
def itDK : Res D → Res Src
  | .ok d h => optR (srcOfD h d) h
  | .exc x h => .exc x h
  | .bad => .bad
@[simp] theorem itDK_ok (d : D) (h : Hd) : itDK (.ok d h) = optR (srcOfD h d) h := rfl
@[simp] theorem mIterD_k (m : ME) (ρ : Env) (h : Hd) : mIterD m ρ h = itDK (m ρ h) := by unfold mIterD itDK; cases m ρ h <;> rfl
def itemsK : Res D → Res Src
  | .ok d h => optR (itemsD h d) h
  | .exc x h => .exc x h
  | .bad => .bad
@[simp] theorem itemsK_ok (d : D) (h : Hd) : itemsK (.ok d h) = optR (itemsD h d) h := rfl
@[simp] theorem mItems_k (m : ME) (ρ : Env) (h : Hd) : mItems m ρ h = itemsK (m ρ h) := by unfold mItems itemsK; cases m ρ h <;> rfl
variable {h : Hd}
@[simp] theorem srcOfD_tup (xs : List D) : srcOfD h (.tup xs) = some ⟨xs, fun _ => True⟩ := rfl
@[simp] theorem srcOfD_ktp (xs : List D) : srcOfD h (.ktp xs) = some ⟨xs, fun _ => True⟩ := rfl
@[simp] theorem srcOfD_lst (xs : List D) : srcOfD h (.lst xs) = some ⟨xs, fun _ => True⟩ := rfl
@[simp] theorem srcOfD_rol (xs : List D) : srcOfD h (.rol xs) = some ⟨xs, fun _ => True⟩ := rfl
@[simp] theorem srcOfD_str (s : Str) : srcOfD h (.str s) = some ⟨signs s, fun _ => True⟩ := rfl
@[simp] theorem srcOfD_dct (ks us : List D) : srcOfD h (.dct ks us) = some ⟨ks, fun _ => True⟩ := rfl
@[simp] theorem srcOfD_dtt (ks us : List D) : srcOfD h (.dtt ks us) = some ⟨ks, fun _ => True⟩ := rfl
@[simp] theorem itemsD_dct (ks us : List D) : itemsD h (.dct ks us) = some ⟨pairsD ks us, fun _ => True⟩ := rfl
@[simp] theorem itemsD_dtt (ks us : List D) : itemsD h (.dtt ks us) = some ⟨pairsD ks us, fun _ => True⟩ := rfl
end
end DD
namespace PySem
open Sem (wp)
open AutoSeq1 (wpAny_loadPart')
/-- enumerate(v): the one argument, v told by how it begins -/
theorem enum_new1 {v : Value} {o : Obj} {H : Heap → Prop} (B : Begins v o H) :
    Meets (Builtin.«enumerate.__new__» ⟨[.type "enumerate", v], []⟩) (fun _ R s => H s.heap ∧
      R (.ok (.ret (.ref (s.heap.push o).objs.size))) { s with heap := (s.heap.push o).push { cls := .type "enumerate", data := .fields #[.none, .bool false, .ref s.heap.objs.size, rawInt 0, .none, .none] } }) :=
  .of_wp fun prog w A R s h => by
    obtain ⟨hp, g, d, tk, os⟩ := s
    obtain ⟨hv, hR⟩ := h
    have hsub := sub_enumerate
    have begin_ : ∀ {A' : Around} {E : Value → Shared → Prop} {Q : Value → Shared → Prop}, Q (.ref hp.objs.size) ⟨hp.push o, g, d, tk, os⟩ → wpAny (model prog w) A' (pyIter v) Q E ⟨hp, g, d, tk, os⟩ :=
      fun q => B.iter prog w _ _ ⟨hp, g, d, tk, os⟩ _ hv q
    wp_walk using begin_
    refine wpAny_stack_any fun st => wpAny_pure ?_
    split
    · rename_i c _ _ _ _ _
      cases (c == Value.type "enumerate") <;> (wp_walk using begin_; exact ⟨_, rfl, hR⟩)
    · wp_walk using begin_
      exact ⟨_, rfl, hR⟩
theorem enum_call1 {prog : Program} {w : World} {A : Around} {E : Value → Shared → Prop} {s : Shared} {v : Value} {o : Obj} {H : Heap → Prop} {Q : Value → Shared → Prop} (B : Begins v o H) (h1 : H s.heap)
    (h : ∀ h', IsEnum h' (s.heap.objs.size + 1) s.heap.objs.size 0 .none → h'.get? s.heap.objs.size = some o → (∀ b o, s.heap.get? b = some o → h'.get? b = some o) → Q (.ref (s.heap.objs.size + 1)) { s with heap := h' }) :
    wpAny (model prog w) A (call (.type "enumerate") [v]) Q E s := by
  refine callType_new F.called_enumerate (by decide) (F.typeCall_enumerate_1 _) (F.newCall_enumerate_1 _) (fun obj => F.args_object_init_2 obj _) F.entry_enumerate_new (enum_new1 B) ⟨h1, ?_⟩
  have hz : (s.heap.push o).objs.size = s.heap.objs.size + 1 := Heap.size_push ..
  rw [hz]
  have he : IsEnum ((s.heap.push o).push { cls := .type "enumerate", data := .fields #[.none, .bool false, .ref s.heap.objs.size, rawInt 0, .none, .none] }) (s.heap.objs.size + 1) s.heap.objs.size 0 .none := by
    have z := Heap.get?_push_size (s.heap.push o) (o := { cls := .type "enumerate", data := .fields #[.none, .bool false, .ref s.heap.objs.size, rawInt 0, .none, .none] }) rfl
    rw [hz] at z; exact z
  exact ⟨⟨_, he, rfl⟩, h _ he (Heap.get?_push_of_some _ (Heap.get?_push_size _ B.free)) fun b o x => Heap.get?_push_of_some _ (Heap.get?_push_of_some _ x)⟩
end PySem
namespace L2
open PySem PySem.Spec PyProof.Rows
def Itet (K : PySem.W.Frag) (a : Addr) : It :=
  ⟨fun i H => ∃ (xs : List V) (x : V), SqT K H a xs ∧ xs[i]? = some x, fun i H v H' => ∃ T x, v = .ref T ∧ H T = none ∧ H' = upd H T (.tup [.int (i : Nat), x]) ∧ ∀ xs, SqT K H a xs → xs[i]? = some x, fun i H => ∃ xs : List V, SqT K H a xs ∧ xs.length = i⟩
theorem turn_enumT {P : Program} {w : World} {K : PySem.W.Frag} {elts : List Expr} {kk : Nat} {tpos : Pos} (a e it : Addr) :
    Turn P w K (.Tuple elts kk tpos) (Itet K a) [e, it] e (fun i h => (∃ old, IsEnum h e it ((i : Nat) : Int) old) ∧ h.IsTupleIter it a i ∧ e ≠ it ∧ a ≠ e ∧ a ≠ it) where
  mem := by simp
  obj := fun i h st b hb => by
    obtain ⟨⟨old, he⟩, ⟨o, ho, hc, hd⟩, _⟩ := st
    have e' : b = e ∨ b = it := by simpa using hb
    rcases e' with z | z
    · rw [z]; exact ⟨_, he, fun v q => nomatch q⟩
    · rw [z]; exact ⟨o, ho, fun v q => by rw [hd] at q; cases q⟩
  keep := fun i h h' st k => let ⟨⟨old, he⟩, hi, hne⟩ := st; ⟨⟨old, k e (by simp) _ he⟩, hi.at fun o q => k it (by simp) o q, hne⟩
  item := by
    intro X hP hw hK hc i pins s σ H E I hf st hg
    subst hP hw hK
    obtain ⟨⟨old, he⟩, hit, hne, hae, hai⟩ := st
    obtain ⟨xs, x, hq, hx⟩ := hg
    obtain ⟨its, rv, p, hz⟩ := I.tuple hq
    obtain ⟨u, hu, ru⟩ := rv.get hx
    have hel : e < s.heap.objs.size := Heap.lt_size he
    have hil : it < s.heap.objs.size := by obtain ⟨_, q, _⟩ := hit; exact Heap.lt_size q
    have hlt : i < its.toArray.size := by
      have := (List.getElem?_eq_some_iff.mp hu).1
      simpa using this
    refine wpAny_pyNext_enum_itemC (i := i) (c := ((i : Nat) : Int)) (St := fun i h => h.IsTupleIter it a i ∧ h.IsTuple a its.toArray) (Draws.tuple (A := X.A.in1) (I.ok.hd hc) it a hai its.toArray) he ⟨hit, p⟩ hlt hne (by simp [hne, hae.symm]) fun x1 h' tk g1 ho st' hT hsz hk => ?_
    have ex : x1 = u := by
      have q : its.toArray[i]? = some x1 := g1
      have q' : its[i]? = some x1 := by simpa using q
      rw [hu] at q'; exact (Option.some.inj q').symm
    subst ex
    refine ⟨_, rfl, wpAny_letOwnedTupleGo_enum (s := { s with heap := h', toks := tk + 1 }) ho fun h'' he' sb => ?_⟩
    have hT2 : h''.get? s.heap.objs.size = some { cls := .type "tuple", data := .seq #[.int i tk, x1] } := (sb.2 _ (Nat.ne_of_gt hel)).trans hT
    have new : ObjOk X.prog X.w (upd H s.heap.objs.size (.tup [.int (i : Nat), x])) h'' s.heap.objs.size (.tup [.int (i : Nat), x]) :=
      ⟨by show 2 ≤ sizeLine; decide, [.int i tk, x1], .cons ⟨_, rfl⟩ (.cons ru .nil), ⟨_, hT2, rfl, _, rfl⟩⟩
    have I1 : Inv X pins σ (upd H s.heap.objs.size (.tup [.int (i : Nat), x])) { s with heap := h'', toks := tk + 1 } :=
      I.turnedNew (t' := tk + 1) (ch := [e, it]) (fun b ob hb q => (sb.2 b (fun z => hb (by simp [z]))).trans (hk b ob (fun z => hb (by simp [z])) (fun z => hb (by simp [z])) q)) hf (Nat.le_refl _) new
    refine ⟨.ref s.heap.objs.size, _, I1, rfl, ⟨_, x, rfl, I.hok.fresh (Nat.le_refl _), rfl, fun ys hy => by rw [I.tuple_inj hy hq]; exact hx⟩, ⟨⟨x1, ?_⟩, st'.1.at fun o q => (sb.2 it (Ne.symm hne)).trans q, hne, hae, hai⟩, fun b hb => ?_⟩
    · have e1 : ((i + 1 : Nat) : Int) = (i : Int) + 1 := by omega
      rw [e1]; exact he'
    · have hb' : b < s.heap.objs.size := by
        have e' : b = e ∨ b = it := by simpa using hb
        rcases e' with z | z
        · rw [z]; exact hel
        · rw [z]; exact hil
      rw [upd_ne (Nat.ne_of_lt hb')]
      exact (hf b hb).1
  done := by
    intro X hP hw hK hc i pins s σ H E I hf st hg
    subst hP hw hK
    obtain ⟨⟨old, he⟩, hit, hne, hae, hai⟩ := st
    obtain ⟨xs, hq, hx⟩ := hg
    obtain ⟨its, rv, p, hz⟩ := I.tuple hq
    obtain ⟨f0, f1, f2, f3, f4, f5⟩ := hf it (by simp)
    have hl := rv.length
    have en : its.toArray.size = i := by simp; omega
    subst en
    exact wpAny_pyNext_enum_endD (St := fun i h => h.IsTupleIter it a i ∧ h.IsTuple a its.toArray) (Draws.tuple (A := X.A.in1) (I.ok.hd hc) it a hai its.toArray) he ⟨hit, p⟩ fun h' eb => ⟨rfl, I.turned (t' := s.toks) (fun b o hb q => eb b o hb q) f0 f1 f3 f4 f5⟩
  self := fun A i s Q E st h => let ⟨⟨_, he⟩, _⟩ := st; wpAny_pyIter_enum he h
def iEnumT (K : PySem.W.Frag) (ta : TA) : TI := fun σ H R => ta σ H fun vs H1 => ∃ a xs, vs = [.ref a] ∧ SqT K H1 a xs ∧ R (Itet K a) H1
theorem pi_enumT {X : Cx} {e : Expr} {ta : TA} {p pos tpos : Pos} {elts : List Expr} {kk : Nat} (hg : Gl X "enumerate") (hm : X.mg "enumerate" = none) (ha : PA X [e] ta) (hs : starEach [e] X.env = [(false, eval e X.env)] := by rfl) :
    PI X (.Tuple elts kk tpos) (.Call (.Name "enumerate" p) [e] [] pos) (iEnumT X.K ta) := by
  refine ⟨fun pins s σ H R I h => ?_⟩
  refine Call_ (ld_blt I hg hm boot_enumerate (PyProof.Rows.callWith_type1 (thn (ha.run pos pins s σ H _ I h) fun us s1 ⟨vs, H1, I1, r1, q1⟩ => ?_) hs rfl))
  obtain ⟨a, xs, ex, hq, q⟩ := q1
  subst ex
  cases r1 with
  | cons r rr =>
    cases rr
    cases r
    obtain ⟨its, rv, p', hz⟩ := I1.tuple hq
    have hlt : a < s1.heap.objs.size := by obtain ⟨o, ho, _⟩ := id p'; exact Heap.lt_size ho
    refine enum_call1 (begins_tuple a its.toArray) (show s1.heap.IsTuple a its.toArray from p') fun h' he hit hk => wpAny_pyIter_enum he ?_
    have I2 : Inv X pins σ H1 { s1 with heap := h' } := I1.kept (t' := s1.toks) hk
    refine ⟨s1.heap.objs.size + 1, [s1.heap.objs.size + 1, s1.heap.objs.size], _, _, H1, rfl, I2, turn_enumT a (s1.heap.objs.size + 1) s1.heap.objs.size, ⟨⟨.none, he⟩, ⟨_, hit, rfl, rfl⟩, Nat.succ_ne_self _, Nat.ne_of_lt (Nat.lt_succ_of_lt hlt), Nat.ne_of_lt hlt⟩, fun b hb => ?_, q⟩
    have e' : b = s1.heap.objs.size + 1 ∨ b = s1.heap.objs.size := by simpa using hb
    have hle : s1.heap.objs.size ≤ b := by
      rcases e' with z | z
      · rw [z]; exact Nat.le_add_right _ _
      · rw [z]; exact Nat.le_refl _
    exact I1.fpOk hle (I1.hok.fresh hle)
def rInDct (n : Bool) : R2 := fun x y H Q => ∃ a o, y = .ref a ∧ DGet H a x o ∧ Q (.bl (if n then !o.isSome else o.isSome)) H
theorem op_inDct {X : Cx} (hu : X.A.units + 1 < cLine) : OpR X (compareOp .In) (rInDct false) := by
  intro pins s σ H x y v u Q I rx ry h
  obtain ⟨a, o, rfl, g, q⟩ := h
  obtain rfl : u = Value.ref a := ry
  exact d_in hu I g rx fun s' I' => ⟨.bl o.isSome, H, I', rfl, q⟩
theorem op_notInDct {X : Cx} (hu : X.A.units + 1 < cLine) : OpR X (compareOp .NotIn) (rInDct true) := by
  intro pins s σ H x y v u Q I rx ry h
  obtain ⟨a, o, rfl, g, q⟩ := h
  obtain rfl : u = Value.ref a := ry
  exact d_notIn hu I g rx fun s' I' => ⟨.bl (!o.isSome), H, I', rfl, q⟩
end L2
namespace L2
open PySem PySem.Spec
end L2
namespace DD
open PySem PySem.Spec L2 RZ
def cInD (d e : D) (h : Hd) : Res Bool := match dgetF h e d with
  | some o => .ok o.isSome h
  | none => cInX d e h
def cNotInD (d e : D) (h : Hd) : Res Bool := match dgetF h e d with
  | some o => .ok (!o.isSome) h
  | none => cNotInX d e h
theorem s_inD {c : Ct} : OpB c (fun x y H Q => (rInA c.K x y H Q ∨ rInTD c.K false x y H Q) ∨ rInDct false x y H Q) cInD := fun {w W σ h H x y dx dy Q} s rx ry p => by
  unfold cInD at p
  split at p
  · rename_i o eo
    obtain ⟨a, o', rfl, g, q1, q2⟩ := dgetF_ok s ry rx eo
    refine .inr ⟨a, o', rfl, g, ?_⟩
    have e : o'.isSome = o.isSome := by
      cases o with
      | some d => obtain ⟨z, ez, _⟩ := q1 d rfl; rw [ez]; rfl
      | none => cases q2 rfl; rfl
    exact ⟨o.isSome, by simp [e], p.ret rfl s⟩
  · exact .inl (s_inX s rx ry p)
theorem s_notinD {c : Ct} : OpB c (fun x y H Q => (rNotInA c.K x y H Q ∨ rInTD c.K true x y H Q) ∨ rInDct true x y H Q) cNotInD := fun {w W σ h H x y dx dy Q} s rx ry p => by
  unfold cNotInD at p
  split at p
  · rename_i o eo
    obtain ⟨a, o', rfl, g, q1, q2⟩ := dgetF_ok s ry rx eo
    refine .inr ⟨a, o', rfl, g, ?_⟩
    have e : o'.isSome = o.isSome := by
      cases o with
      | some d => obtain ⟨z, ez, _⟩ := q1 d rfl; rw [ez]; rfl
      | none => cases q2 rfl; rfl
    exact ⟨!o.isSome, by simp [e], p.ret rfl s⟩
  · exact .inl (s_notinX s rx ry p)
section
variable {X : Cx} {W : WX} {a b e : Expr} {es : List Expr} {ma mb mo : ME} {mas mks : MA} {pos apos cpos p kpos : Pos} {k n : Nat} {x : Str}
theorem t_inDD (hr : Room k X.A) (ha : SE X W a ma) (hb : SE X W b mb) (hm : behindInMarks .In b = false := by rfl) : ST X W (.Compare a [.In] [b] pos) (mCmp cInD ma mb) := t_cmp (((op_inA (hu65 hr)).or (op_inTD (hu66 hr))).or (op_inDct (hu1 hr))) s_inD ha hb hm
theorem t_notinDD (hr : Room k X.A) (ha : SE X W a ma) (hb : SE X W b mb) (hm : behindInMarks .NotIn b = false := by rfl) : ST X W (.Compare a [.NotIn] [b] pos) (mCmp cNotInD ma mb) := t_cmp (((op_notInA (hu65 hr)).or (op_notInTD (hu66 hr))).or (op_notInDct (hu1 hr))) s_notinD ha hb hm
end
theorem keysI_keyD : ∀ {ds : List D} {ns : List Int}, keysI ds = some ns → ds.map keyD = ns.map fun n => some (Sum.inl n)
  | [], ns, e => by simp only [keysI, Option.some.injEq] at e; subst e; rfl
  | d :: ds, ns, e => by
    cases d with
    | int i =>
      simp only [keysI, Option.map_eq_some_iff] at e
      obtain ⟨ns', e1, rfl⟩ := e
      simp only [List.map_cons, keyD, keysI_keyD e1]
    | _ => cases e
theorem map_some_inj {α : Type} : ∀ {l m : List α}, l.map some = m.map some → l = m
  | [], [], _ => rfl
  | [], _ :: _, e => by simp at e
  | _ :: _, [], e => by simp at e
  | a :: l, b :: m, e => by
    simp only [List.map_cons, List.cons.injEq, Option.some.injEq] at e
    rw [e.1, map_some_inj e.2]
theorem keys_V {c : Ct} {w : Wd} : ∀ {ks : List D} {kvs : List (Key × V)}, ks.map keyD = kvs.map (fun p => some p.1) → VRs c w ks (kvs.map fun kv => kV kv.1)
  | [], [], _ => .nil
  | [], _ :: _, e => by simp at e
  | _ :: _, [], e => by simp at e
  | d :: ks, p :: kvs, e => by
    simp only [List.map_cons, List.cons.injEq] at e
    exact .cons (key_VR e.1) (keys_V e.2)
def srtDF : List D → Hd → Res O
  | [x], h => match dctOf h x with
    | some (ks, _) => match keysI ks with
      | some ns => if ns.length < 64 then .ok (.new (.lst ((srtI ns).map .int))) h else .bad
      | none => .bad
    | none => srtF [x] h
  | _, _ => .bad
def rSrtD : List V → Hp → VK → Prop := fun xs H Q => ∃ (a : Addr) (kvs : List (Key × V)) (ks : List Int), xs = [.ref a] ∧ Rd H a (.dK kvs) ∧ kvs.map (·.1) = ks.map Sum.inl ∧ ks.length < 64 ∧
    ∀ (ys : List Int) (p : Addr), ys.Perm ks → ys.Pairwise (· ≤ ·) → H p = none → Q (.ref p) (upd H p (.lst (ys.map V.int)))
theorem cr_srtD {X : Cx} (hc : X.calm = true) : CallR X (.builtin "sorted") (fun xs H Q => rSorted X.K xs H Q ∨ rSrtD xs H Q) := CallR.or cr_sorted (call_sortedDI hc)
theorem s_srtD {c : Ct} : CallS c (fun xs H Q => rSorted c.K xs H Q ∨ rSrtD xs H Q) srtDF := fun {w W σ h H vs ds Q} s r p => by
  unfold srtDF at p
  split at p
  · rename_i x
    split at p
    · rename_i ks us ed
      split at p
      · rename_i ns en
        split at p
        · rename_i hn
          obtain ⟨v, rfl, rv⟩ := r.one_inv
          obtain ⟨a, kvs, rfl, q, kq, z⟩ := dctOf_ok s rv ed
          refine .inr ⟨a, kvs, ns, rfl, q, ?_, hn, fun ms q pm up hnew => ?_⟩
          · have := kq.symm.trans (keysI_keyD en)
            rw [show kvs.map (fun p => some p.1) = (kvs.map (·.1)).map some by rw [List.map_map]; rfl, show ns.map (fun n => some (Sum.inl n : Key)) = (ns.map Sum.inl).map some by rw [List.map_map]; rfl] at this
            exact map_some_inj this
          · rw [srtI_one pm up]
            obtain ⟨s2, r2⟩ := new_obj (z := .lst ((srtI ns).map .int)) s hnew (by intro z; cases z) ⟨_, upd_same, VRs_ints _⟩
            exact p _ w _ (.refl _) r2 s2
        · exact p.elim
      · exact p.elim
    · exact .inl (s_srt s r p)
  · exact p.elim
def listDF : List D → Hd → Res O
  | [x], h => match dctOf h x with
    | some (ks, _) => .ok (.new (.lst ks)) h
    | none => listF [x] h
  | _, _ => .bad
def rListD : List V → Hp → VK → Prop := fun xs H Q => ∃ (a : Addr) (kvs : List (Key × V)), xs = [.ref a] ∧ Rd H a (.dK kvs) ∧ ∀ p, H p = none → Q (.ref p) (upd H p (.lst (kvs.map fun kv => kV kv.1)))
theorem cr_listD {X : Cx} (hc : X.calm = true) : CallR X (.type "list") (fun xs H Q => rListA X.K xs H Q ∨ rListD xs H Q) := CallR.or (call_listA hc) (call_listD hc)
theorem s_listD {c : Ct} : CallS c (fun xs H Q => rListA c.K xs H Q ∨ rListD xs H Q) listDF := fun {w W σ h H vs ds Q} s r p => by
  unfold listDF at p
  split at p
  · rename_i x
    split at p
    · rename_i ks us ed
      obtain ⟨v, rfl, rv⟩ := r.one_inv
      obtain ⟨a, kvs, rfl, q, kq, z⟩ := dctOf_ok s rv ed
      refine .inr ⟨a, kvs, rfl, q, fun q hnew => ?_⟩
      obtain ⟨s2, r2⟩ := new_obj (z := .lst ks) s hnew (by intro z; cases z) ⟨_, upd_same, keys_V kq⟩
      exact p _ w _ (.refl _) r2 s2
    · exact .inl (s_list s r p)
  · exact p.elim
def dictF : List D → Hd → Res O
  | [x], h => match dctOf h x with
    | some (ks, us) => .ok (.new (.dct ks us)) h
    | none => .bad
  | _, _ => .bad
theorem s_dict {c : Ct} : CallS c (fun xs H Q => ∃ (a : Addr) (kvs : List (Key × V)), xs = [.ref a] ∧ Rd H a (.dK kvs) ∧ ∀ p, H p = none → Q (.ref p) (upd H p (.dK kvs))) dictF := fun {w W σ h H vs ds Q} s r p => by
  unfold dictF at p
  split at p
  · rename_i x
    split at p
    · rename_i ks us ed
      obtain ⟨v, rfl, rv⟩ := r.one_inv
      obtain ⟨a, kvs, rfl, q, kq, z⟩ := dctOf_ok s rv ed
      refine ⟨a, kvs, rfl, q, fun q hnew => ?_⟩
      obtain ⟨s2, r2⟩ := new_obj (z := .dct ks us) s hnew (by intro z; cases z) ⟨kvs, upd_same, kq, z⟩
      exact p _ w _ (.refl _) r2 s2
    · exact p.elim
  · exact p.elim
def enumD (xs : List D) : List D := zipD (rangeD 0 xs.length) xs
theorem enumD_len (xs : List D) : (enumD xs).length = xs.length := by unfold enumD; rw [zipD_len, rangeD_len]; omega
theorem enumD_at {xs : List D} {i : Nat} {x : D} (e : xs[i]? = some x) : (enumD xs)[i]? = some (.tup [.int (i : Nat), x]) := by
  refine zipD_get ?_ e
  have hi : i < xs.length := (List.getElem?_eq_some_iff.mp e).1
  simp [rangeD, hi]
def enumF (h : Hd) : List D → Option Src
  | [.tup xs] => some ⟨enumD xs, fun _ => True⟩
  | [.ktp xs] => some ⟨enumD xs, fun _ => True⟩
  | [x] => (lstOf h x).map fun xs => ⟨enumD xs, fun h => lstOf h x = some xs⟩
  | _ => none
theorem srcE {c : Ct} {w : Wd} {a : Addr} {vs : List V} {xs : List D} (q : ∀ w2 h2 H2, Le1 w w2 → SR c w2 h2 H2 → SqT c.K H2 a vs) (r : VRs c w xs vs) : SrcOk c w ⟨enumD xs, fun _ => True⟩ (Itet c.K a) := by
  refine ⟨fun H => SqT c.K H a vs, fun i H v H' => ∃ T x, v = .ref T ∧ H T = none ∧ H' = upd H T (.tup [.int (i : Nat), x]) ∧ ∀ xs, SqT c.K H a xs → xs[i]? = some x,
    ⟨fun i H hi g => ?_, fun H g => ?_, fun i H x H' hi g y => y⟩, fun w2 h2 H2 l s _ => q w2 h2 H2 l s, fun i v H2 H3 w2 h2 hi l s ck y => ?_⟩
  · rw [enumD_len, r.len] at hi
    exact ⟨vs, vs[i], g, List.getElem?_eq_getElem hi⟩
  · exact ⟨vs, g, by rw [enumD_len, r.len]⟩
  · obtain ⟨T, x, rfl, hn, rfl, y⟩ := y
    obtain ⟨d, e, rd⟩ := r.get' (y _ (q w2 h2 H2 l s))
    obtain ⟨w3, l3, s3, r3⟩ := new_tup (ds := [.int (i : Nat), d]) (vs := [.int (i : Nat), x]) s (.cons (by simp only [VR]) (.one (rd.le0 l.toLe0))) hn
    exact ⟨w3, _, l3, s3, enumD_at e, r3⟩
theorem srcEL {c : Ct} {w : Wd} {h0 : Hd} {H0 : Hp} {a : Addr} {x : D} {xs : List D} (rx : VR c w x (.ref a)) : SrcOk c w ⟨enumD xs, fun h => lstOf h x = some xs⟩ (Ite c.K a) := by
  refine ⟨fun H => ∃ vs, SqL c.K H a vs ∧ vs.length = xs.length, fun i H v H' => ∃ T x, v = .ref T ∧ H T = none ∧ H' = upd H T (.tup [.int (i : Nat), x]) ∧ ∀ xs, SqL c.K H a xs → xs[i]? = some x,
    ⟨fun i H hi g => ?_, fun H g => ?_, fun i H x H' hi g y => y⟩, fun w2 h2 H2 l s ck => ?_, fun i v H2 H3 w2 h2 hi l s ck y => ?_⟩
  · obtain ⟨vs, q, e⟩ := g
    rw [enumD_len, ← e] at hi
    exact ⟨vs, vs[i], q, List.getElem?_eq_getElem hi⟩
  · obtain ⟨vs, q, e⟩ := g
    exact ⟨vs, q, by rw [enumD_len, e]; exact Nat.le_refl _⟩
  · obtain ⟨a2, vs2, ea2, q2, z2⟩ := lstOf_ok s (rx.le0 l.toLe0) ck
    cases ea2
    exact ⟨vs2, SqL.of q2, z2.len.symm⟩
  · obtain ⟨a2, vs2, ea2, q2, z2⟩ := lstOf_ok s (rx.le0 l.toLe0) ck
    cases ea2
    obtain ⟨T, x, rfl, hn, rfl, y⟩ := y
    obtain ⟨d, e, rd⟩ := z2.get' (y _ (SqL.of q2))
    obtain ⟨w3, l3, s3, r3⟩ := new_tup (ds := [.int (i : Nat), d]) (vs := [.int (i : Nat), x]) s (.cons (by simp only [VR]) (.one rd)) hn
    exact ⟨w3, _, l3, s3, enumD_at e, r3⟩
section
variable {X : Cx} {W : WX} {e : Expr} {mas : MA} {p pos tpos : Pos}
theorem i_enum {elts : List Expr} {kk : Nat} (hm : X.mg "enumerate" = none) (ha : SA X W [e] mas) (hg : Gl X "enumerate" := by rfl) (hs : starEach [e] X.env = [(false, eval e X.env)] := by rfl) :
    SI X W (.Tuple elts kk tpos) (.Call (.Name "enumerate" p) [e] [] pos) (mSrc enumF mas) := PI.imp (PI.or (pi_enum hg hm ha hs) (pi_enumT hg hm ha hs)) fun σ H R q => by
  obtain ⟨w, ρ, h, er, sr, pq⟩ := q
  unfold mSrc at pq
  cases e1 : mas ρ h with
  | bad => rw [e1] at pq; exact pq.elim
  | exc x h1 => rw [e1] at pq; exact .inl ⟨w, ρ, h, er, sr, by rw [e1]; exact pq⟩
  | ok ds h1 =>
    rw [e1] at pq
    have pq' : Post (fun w _ s J => SrcOk (Cx.ct X) w s J) (Cx.ct X) w W σ (optR (enumF h1 ds) h1) R := pq
    obtain ⟨src, eo, p2⟩ := optR_post pq'
    match ds, eo with
    | [], eo => cases eo
    | _ :: _ :: _, eo => simp [enumF] at eo
    | [x], eo =>
      have tups : ∀ xs, (∀ v w1, VR (Cx.ct X) w1 x v → ∃ a vs, v = .ref a ∧ VRs (Cx.ct X) w1 xs vs ∧ ∀ w2 h2 H2, Le1 w1 w2 → SR (Cx.ct X) w2 h2 H2 → SqT X.K H2 a vs) → src = ⟨enumD xs, fun _ => True⟩ → (iEnum X.K (tAr (Cx.ct X) W mas) σ H R ∨ iEnumT X.K (tAr (Cx.ct X) W mas) σ H R) := fun xs hx es => by
        subst es
        refine Or.inr (show iEnumT X.K (tAr (Cx.ct X) W mas) σ H R from ⟨w, ρ, h, er, sr, ?_⟩)
        rw [e1]
        intro vs w1 H1 l r s1
        obtain ⟨v, rfl, rv⟩ := r.one_inv
        obtain ⟨a, us, rfl, z, q⟩ := hx v w1 rv
        exact ⟨a, us, rfl, q _ _ _ (.refl _) s1, p2 _ w1 H1 l (srcE q z) s1⟩
      cases x with
      | tup xs =>
        refine tups xs (fun v w1 r => ?_) (Option.some.inj eo).symm
        simp only [VR] at r
        obtain ⟨a, vs, rfl, q, z⟩ := r
        exact ⟨a, vs, rfl, z, fun w2 h2 H2 l s => SqT_le (fun a o q => s.F a o (l.F a o q)) q⟩
      | ktp xs =>
        refine tups xs (fun v w1 r => ?_) (Option.some.inj eo).symm
        simp only [VR] at r
        obtain ⟨a, vs, rfl, q, z⟩ := r
        exact ⟨a, vs, rfl, z, fun w2 h2 H2 l s => q.sq⟩
      | lst ys =>
        have eo' : some (⟨enumD ys, fun h => lstOf h (.lst ys) = some ys⟩ : Src) = some src := eo
        cases eo'
        refine Or.inl (show iEnum X.K (tAr (Cx.ct X) W mas) σ H R from ⟨w, ρ, h, er, sr, ?_⟩)
        rw [e1]
        intro vs w1 H1 l r s1
        obtain ⟨v, rfl, rv⟩ := r.one_inv
        obtain ⟨a, us, rfl, q, z⟩ := lstOf_ok (xs := ys) s1 rv rfl
        exact ⟨a, us, rfl, SqL.of q, p2 _ w1 H1 l (srcEL (h0 := h1) (H0 := H1) rv) s1⟩
      | ref n =>
        have eo' : ((lstOf h1 (.ref n)).map fun xs => (⟨enumD xs, fun h => lstOf h (.ref n) = some xs⟩ : Src)) = some src := eo
        rw [Option.map_eq_some_iff] at eo'
        obtain ⟨ys, ey, rfl⟩ := eo'
        refine Or.inl (show iEnum X.K (tAr (Cx.ct X) W mas) σ H R from ⟨w, ρ, h, er, sr, ?_⟩)
        rw [e1]
        intro vs w1 H1 l r s1
        obtain ⟨v, rfl, rv⟩ := r.one_inv
        obtain ⟨a, us, rfl, q, z⟩ := lstOf_ok (xs := ys) s1 rv ey
        exact ⟨a, us, rfl, SqL.of q, p2 _ w1 H1 l (srcEL (h0 := h1) (H0 := H1) rv) s1⟩
      | _ => simp [enumF, lstOf] at eo
end
def mLRg2 (ma mb : ME) : Env → Hd → Res O := fun ρ h => (ma ρ h).bind fun x h => (mb ρ h).bind fun y h => match x, y with
  | .int i, .int j => if 0 ≤ i ∧ i ≤ 16777216 ∧ 0 ≤ j ∧ j ≤ 16777216 then .ok (.new (.lst (rangeD i (j - i).toNat))) h else .bad
  | _, _ => .bad
def mLRg1 (ma : ME) : Env → Hd → Res O := fun ρ h => (ma ρ h).bind fun y h => match y with
  | .int j => if 0 ≤ j ∧ j ≤ 16777216 then .ok (.new (.lst (rangeD 0 j.toNat))) h else .bad
  | _ => .bad
mutual
def isPyX : D → Bool
  | .non => true
  | .bl _ => true
  | .int _ => true
  | .str _ => true
  | .tup xs => isPyXs xs
  | .ktp xs => isPyXs xs
  | .lst xs => isPyXs xs
  | .dct _ us => isPyXs us
  | _ => false
def isPyXs : List D → Bool
  | [] => true
  | d :: ds => isPyX d && isPyXs ds
end
def keyP : D → PyData
  | .int i => .int i
  | .str s => .str s
  | _ => .none
mutual
def pyX : D → PyData
  | .non => .none
  | .bl b => .bool b
  | .int i => .int i
  | .str s => .str s
  | .tup xs => .tuple (pyXs xs)
  | .ktp xs => .tuple (pyXs xs)
  | .lst xs => .list (pyXs xs)
  | .dct ks us => .dict (pyXk ks us)
  | _ => .none
def pyXs : List D → List PyData
  | [] => []
  | d :: ds => pyX d :: pyXs ds
def pyXk : List D → List D → List (PyData × PyData)
  | ks, u :: us => match ks with
    | k :: ks => (keyP k, pyX u) :: pyXk ks us
    | [] => []
  | _, [] => []
end
@[simp] theorem pyXs_nil : pyXs [] = [] := by simp only [pyXs]
@[simp] theorem pyXs_cons (d : D) (ds : List D) : pyXs (d :: ds) = pyX d :: pyXs ds := by simp only [pyXs]
/-- what the repr of a value is -/
def RpX (P : Program) (w : World) (h : Heap) (u : Value) (p : PyData) : Prop := (∃ as, Reads h u p as) ∧ ∃ bs, ReadAtMost h p.depth bs ∧ ReprK P w bs h p.depth u p.shown
def RpsX (P : Program) (w : World) (h : Heap) (us : List Value) (ps : List PyData) : Prop := (∃ as, ReadsAll h us ps as) ∧ ∃ bs, ReadAtMost h (PyData.depthAll ps) bs ∧ ReprAllK P w bs h (PyData.depthAll ps) us (PyData.shownAll ps)
theorem RpsX.nil {P : Program} {w : World} {h : Heap} : RpsX P w h [] [] := ⟨⟨_, .nil⟩, [], (fun _ h => nomatch h), by simp only [PyData.shownAll]; exact .nil⟩
theorem RpsX.cons {P : Program} {w : World} {h : Heap} {u : Value} {us : List Value} {p : PyData} {ps : List PyData} (a : RpX P w h u p) (b : RpsX P w h us ps) : RpsX P w h (u :: us) (p :: ps) := by
  obtain ⟨⟨as, r1⟩, b1, q1, k1⟩ := a
  obtain ⟨⟨cs, r2⟩, b2, q2, k2⟩ := b
  refine ⟨⟨_, .cons r1 r2⟩, b1 ++ b2, ?_, ?_⟩
  · simp only [PyData.depthAll]
    exact (q1.mono (Nat.le_max_left _ _)).append (q2.mono (Nat.le_max_right _ _))
  · simp only [PyData.depthAll, PyData.shownAll]
    exact .cons ((k1.more fun b hb => List.mem_append_left _ hb).level_le (Nat.le_max_left _ _)) (k2.more_le (fun b hb => List.mem_append_right _ hb) (Nat.le_max_right _ _))
/-- what a repr asks of data -/
def Fits (p : PyData) : Prop := p.showable = true ∧ p.leavesShort 13 = true ∧ p.bulk ≤ 2 ^ 20
def FitsA (ps : List PyData) : Prop := PyData.showableAll ps = true ∧ PyData.leavesShortAll 13 ps = true ∧ PyData.bulkAll ps ≤ 2 ^ 20
theorem FitsA.cons {p : PyData} {ps : List PyData} (f : FitsA (p :: ps)) : Fits p ∧ FitsA ps := by
  obtain ⟨a, b, c⟩ := f
  simp only [PyData.showableAll, PyData.leavesShortAll, PyData.bulkAll, Bool.and_eq_true] at a b c
  exact ⟨⟨a.1, b.1, by omega⟩, a.2, b.2, by omega⟩
theorem Fits.list {ps : List PyData} (f : Fits (.list ps)) : FitsA ps := by
  obtain ⟨a, b, c⟩ := f
  simp only [PyData.showable, PyData.leavesShort, PyData.bulk] at a b c
  exact ⟨a, b, c⟩
theorem Fits.tuple {ps : List PyData} (f : Fits (.tuple ps)) : FitsA ps := by
  obtain ⟨a, b, c⟩ := f
  simp only [PyData.showable, PyData.leavesShort, PyData.bulk] at a b c
  exact ⟨a, b, c⟩
theorem Fits.dict : ∀ {kvs : List (PyData × PyData)}, Fits (.dict kvs) → FitsA (kvs.map (·.1)) ∧ FitsA (kvs.map (·.2))
  | [], _ => ⟨⟨rfl, rfl, by simp [PyData.bulkAll]⟩, rfl, rfl, by simp [PyData.bulkAll]⟩
  | (k, v) :: r, f => by
    obtain ⟨a, b, c⟩ := f
    simp only [PyData.showable, PyData.leavesShort, PyData.bulk, PyData.showableKv, PyData.leavesShortKv, PyData.bulkKv, Bool.and_eq_true] at a b c
    obtain ⟨⟨a1, b1, c1⟩, a2, b2, c2⟩ := Fits.dict (kvs := r) ⟨by simpa only [PyData.showable] using a.2, by simpa only [PyData.leavesShort] using b.2, by simp only [PyData.bulk]; omega⟩
    have e1 : PyData.bulkAll (r.map (·.1)) + PyData.bulkAll (r.map (·.2)) ≤ PyData.bulkKv r := bulk_le r
    refine ⟨⟨?_, ?_, ?_⟩, ?_, ?_, ?_⟩
    · simp only [List.map_cons, PyData.showableAll, Bool.and_eq_true]; exact ⟨a.1.1, a1⟩
    · simp only [List.map_cons, PyData.leavesShortAll, Bool.and_eq_true]; exact ⟨b.1.1, b1⟩
    · simp only [List.map_cons, PyData.bulkAll]; omega
    · simp only [List.map_cons, PyData.showableAll, Bool.and_eq_true]; exact ⟨a.1.2, a2⟩
    · simp only [List.map_cons, PyData.leavesShortAll, Bool.and_eq_true]; exact ⟨b.1.2, b2⟩
    · simp only [List.map_cons, PyData.bulkAll]; omega
where
  bulk_le : ∀ r : List (PyData × PyData), PyData.bulkAll (r.map (·.1)) + PyData.bulkAll (r.map (·.2)) ≤ PyData.bulkKv r
    | [] => by simp [PyData.bulkAll, PyData.bulkKv]
    | (a, b) :: r => by
      have := bulk_le r
      simp only [List.map_cons, PyData.bulkAll, PyData.bulkKv]
      omega
def isBox : D → Bool
  | .tup _ => true
  | .ktp _ => true
  | .lst _ => true
  | .dct _ _ => true
  | _ => false
open Classical in
noncomputable def reprF : List D → Hd → Res O
  | [d], h => if isBox d = true ∧ isPyX d = true ∧ Fits (pyX d) ∧ (pyX d).depth ≤ 60 then .ok (.val (.str (pyX d).shown)) h else .bad
  | _, _ => .bad
def ixDF (h : Hd) (x y : D) : Option D := match dgetF h x y with
  | some o => o
  | none => ixF h x y
def mIxD (ma mb : ME) : ME := fun ρ h => (ma ρ h).bind fun x h => (mb ρ h).bind fun y h => optR (ixDF h x y) h
theorem PE.or {X : Cx} {e : Expr} {t u : TE} (a : PE X e t) (b : PE X e u) : PE X e (fun σ H Q => t σ H Q ∨ u σ H Q) := ⟨fun pins s σ H Q I h => h.elim (fun h => a.run pins s σ H Q I h) (fun h => b.run pins s σ H Q I h)⟩
theorem mIxD_or (ma mb : ME) (ρ : Env) (h : Hd) : mIxD ma mb ρ h = mIx ma mb ρ h ∨ mIxD ma mb ρ h = mDIx ma mb ρ h := by
  unfold mIxD mIx mDIx
  cases e1 : ma ρ h with
  | bad => exact .inl rfl
  | exc x h1 => exact .inl rfl
  | ok x h1 =>
    show (mb ρ h1).bind _ = (mb ρ h1).bind _ ∨ (mb ρ h1).bind _ = (mb ρ h1).bind _
    cases e2 : mb ρ h1 with
    | bad => exact .inl rfl
    | exc y h2 => exact .inl rfl
    | ok y h2 =>
      show optR (ixDF h2 x y) h2 = optR (ixF h2 x y) h2 ∨ optR (ixDF h2 x y) h2 = optR ((dgetF h2 x y).bind id) h2
      unfold ixDF
      cases e3 : dgetF h2 x y with
      | none => exact .inl rfl
      | some o => exact .inr rfl
section
variable {X : Cx} {W : WX} {a b : Expr} {ma mb : ME} {pos : Pos} {k : Nat}
theorem e_ixD (hr : Room k X.A) (ha : SE X W a ma) (hb : SE X W b mb) (hs : PlainIx b := by intro _ _; rfl) (hn : NoSl b := by intro _ _; rfl) : SE X W (.Subscript a b pos) (mIxD ma mb) := PE.imp (PE.or (e_ix ha hb hs) (e_dix hr ha hb hn)) fun σ H Q ⟨w, ρ, h, e, s, p⟩ => by
  rcases mIxD_or ma mb ρ h with q | q <;> rw [q] at p
  · exact .inl ⟨w, ρ, h, e, s, p⟩
  · exact .inr ⟨w, ρ, h, e, s, p⟩
end
def KwsOk (K : PySem.W.Frag) (mg : Str → Option Value) (Dk : Addr) : List (Str × D) → Prop
  | [] => True
  | (y, d) :: r => (∃ u, PySem.W.nsIn K Dk y = some (some u) ∧ KRel K mg d u) ∧ KwsOk K mg Dk r
theorem KwsOk.ex {K : PySem.W.Frag} {mg : Str → Option Value} {Dk : Addr} : ∀ {kws : List (Str × D)}, KwsOk K mg Dk kws → ∃ kv : List (Str × V), kv.map (·.1) = kws.map (·.1) ∧ (∀ q ∈ kv, ∃ u, PySem.W.nsIn K Dk q.1 = some (some u) ∧ RelV q.2 u) ∧ ∀ wd : Wd, VRs ⟨K, mg⟩ wd (kws.map (·.2)) (kv.map (·.2))
  | [], _ => ⟨[], rfl, (fun q h => by cases h), fun _ => .nil⟩
  | (y, d) :: r, h => by
    obtain ⟨⟨u, hu, v, rv, q⟩, hr⟩ := h
    obtain ⟨kv, e, hk, hq⟩ := KwsOk.ex hr
    refine ⟨(y, v) :: kv, by simp [e], fun z hz => ?_, fun wd => .cons (q wd) (hq wd)⟩
    rcases List.mem_cons.mp hz with rfl | hz
    · exact ⟨u, hu, rv⟩
    · exact hk z hz
section
variable {P : Program} {w : World} {K : PySem.W.Frag} {mg : Str → Option Value} {base : Heap} {x qual : Str} {st : Stmt} {ps ks : List Str} {f : Addr} {fd : FuncData} {k n : Nat} {dvs : List D} {kws : List (Str × D)} {m : List D → Hd → Res D} {gD : List D → List D → List D}
  {oc : Value} {od an : Option Addr} {osl : Array (Option Value)} {kV doc pm cdv ct : Value}
theorem defX0 (l : K.lookup f = some ⟨oc, od, .func (PySem.W.fnOf x qual (defArgs st) (defBody st) (defScope st) .none kV doc pm an cdv ct), osl⟩) (c : PySem.W.codeIn K cdv qual = true) (kp : PySem.W.keepIn K (.ref f) = true) :
    DefX K mg x qual st [] [] f (PySem.W.fnOf x qual (defArgs st) (defBody st) (defScope st) .none kV doc pm an cdv ct) :=
  ⟨[], [], ⟨⟨oc, od, .none, kV, doc, pm, an, cdv, ct, osl, rfl, l, c, .inl ⟨rfl, rfl⟩, .inl rfl⟩, kp⟩, fun _ => .nil, rfl, fun _ => .nil⟩
theorem defXk {Dk : Addr} (l : K.lookup f = some ⟨oc, od, .func (PySem.W.fnOf x qual (defArgs st) (defBody st) (defScope st) .none (.ref Dk) doc pm an cdv ct), osl⟩) (c : PySem.W.codeIn K cdv qual = true) (kp : PySem.W.keepIn K (.ref f) = true) (h : KwsOk K mg Dk kws) :
    DefX K mg x qual st [] kws f (PySem.W.fnOf x qual (defArgs st) (defBody st) (defScope st) .none (.ref Dk) doc pm an cdv ct) := by
  obtain ⟨kv, e, hk, hq⟩ := h.ex
  exact ⟨[], kv, ⟨⟨oc, od, .none, .ref Dk, doc, pm, an, cdv, ct, osl, rfl, l, c, .inl ⟨rfl, rfl⟩, .inr ⟨Dk, rfl, hk⟩⟩, kp⟩, fun _ => .nil, e, hq⟩
theorem defXd {T : Addr} {its : Array Value} {tn : Nat} {to_ : Option Addr} {tsl : Array (Option Value)} (l : K.lookup f = some ⟨oc, od, .func (PySem.W.fnOf x qual (defArgs st) (defBody st) (defScope st) (.ref T) kV doc pm an cdv ct), osl⟩) (c : PySem.W.codeIn K cdv qual = true) (kp : PySem.W.keepIn K (.ref f) = true)
    (t : K.lookup T = some ⟨.type "tuple", to_, .seq its tn, tsl⟩) (hd : KRels K mg dvs its.toList) (hne : dvs ≠ []) : DefX K mg x qual st dvs [] f (PySem.W.fnOf x qual (defArgs st) (defBody st) (defScope st) (.ref T) kV doc pm an cdv ct) := by
  obtain ⟨vs, rs, q⟩ := hd.ex
  refine ⟨vs, [], ⟨⟨oc, od, .ref T, kV, doc, pm, an, cdv, ct, osl, rfl, l, c, .inr ⟨fun z => hne ?_, T, _, its.toList, tn, rfl, t, by simp, rs⟩, .inl rfl⟩, kp⟩, q, rfl, fun _ => .nil⟩
  subst z
  have := (q ⟨fun _ => none, fun _ => none, fun _ => none⟩).len
  exact List.length_eq_zero_iff.mp this
structure ShB (K : PySem.W.Frag) (mg : Str → Option Value) (x : Str) (f : Addr) (fd : FuncData) (ps : List Str) (n : Nat) (ks : List Str) (gD : List D → List D → List D) : Prop where
  m : mg x = some (.ref f)
  k : PySem.W.keepIn K (.ref f) = true
  b : BnG K mg fd ps n ks gD
theorem ShB.cal (S : ShB K mg x f fd ps n ks gD) (F : FnG P w K mg base (L2.CX P w) k f fd ps (spM ⟨K, mg⟩ ps.length m)) : CalG P w K mg base k x n ks gD m := ⟨f, fd, ps, F, S.m, S.k, S.b⟩
end
section
variable {h : Hd} {ρ : Env}
def calGB (n j : Nat) (gD : List D → List D → List D) (m : List D → Hd → Res D) (ds : List D) : Res (List D) → Res D
  | .ok es h => if ds.length = n ∧ es.length = j then m (gD ds es) h else .bad
  | .exc x h => .exc x h
  | .bad => .bad
def calGA (n j : Nat) (gD : List D → List D → List D) (m : List D → Hd → Res D) (mk : MA) (ρ : Env) : Res (List D) → Res D
  | .ok ds h => calGB n j gD m ds (mk ρ h)
  | .exc x h => .exc x h
  | .bad => .bad
@[simp] theorem calGB_ok (n j : Nat) (gD : List D → List D → List D) (m : List D → Hd → Res D) (ds es : List D) (h : Hd) : calGB n j gD m ds (.ok es h) = if ds.length = n ∧ es.length = j then m (gD ds es) h else .bad := rfl
@[simp] theorem calGB_exc (n j : Nat) (gD : List D → List D → List D) (m : List D → Hd → Res D) (ds : List D) (x : Xc) (h : Hd) : calGB n j gD m ds (.exc x h) = .exc x h := rfl
@[simp] theorem calGA_ok (n j : Nat) (gD : List D → List D → List D) (m : List D → Hd → Res D) (mk : MA) (ρ : Env) (ds : List D) (h : Hd) : calGA n j gD m mk ρ (.ok ds h) = calGB n j gD m ds (mk ρ h) := rfl
@[simp] theorem calGA_exc (n j : Nat) (gD : List D → List D → List D) (m : List D → Hd → Res D) (mk : MA) (ρ : Env) (x : Xc) (h : Hd) : calGA n j gD m mk ρ (.exc x h) = .exc x h := rfl
@[simp] theorem mCalG_k (n j : Nat) (gD : List D → List D → List D) (m : List D → Hd → Res D) (ma mk : MA) (ρ : Env) (h : Hd) : mCalG n j gD m ma mk ρ h = calGA n j gD m mk ρ (ma ρ h) := by
  unfold mCalG calGA
  cases ma ρ h with
  | ok ds h1 =>
    show (mk ρ h1).bind _ = calGB n j gD m ds (mk ρ h1)
    unfold calGB
    cases mk ρ h1 <;> rfl
  | exc x h1 => rfl
  | bad => rfl
def ixDK2 (x : D) : Res D → Res D
  | .ok y h => optR (ixDF h x y) h
  | .exc x h => .exc x h
  | .bad => .bad
def ixDK (mb : ME) (ρ : Env) : Res D → Res D
  | .ok x h => ixDK2 x (mb ρ h)
  | .exc x h => .exc x h
  | .bad => .bad
@[simp] theorem ixDK2_ok (x y : D) (h : Hd) : ixDK2 x (.ok y h) = optR (ixDF h x y) h := rfl
@[simp] theorem ixDK_ok (mb : ME) (ρ : Env) (x : D) (h : Hd) : ixDK mb ρ (.ok x h) = ixDK2 x (mb ρ h) := rfl
@[simp] theorem mIxD_k (ma mb : ME) (ρ : Env) (h : Hd) : mIxD ma mb ρ h = ixDK mb ρ (ma ρ h) := by
  unfold mIxD ixDK
  cases ma ρ h with
  | ok x h1 =>
    show (mb ρ h1).bind _ = ixDK2 x (mb ρ h1)
    unfold ixDK2
    cases mb ρ h1 <;> rfl
  | exc x h1 => rfl
  | bad => rfl
theorem dgetF_no {x y : D} (a : dctOf h x = none) (b : dttOf h x = none) : dgetF h x y = none := by
  unfold dgetF
  rw [a, b]
@[simp] theorem ixDF_tup (xs : List D) (y : D) : ixDF h (.tup xs) y = ixF h (.tup xs) y := by unfold ixDF; rw [dgetF_no rfl rfl]
@[simp] theorem ixDF_ktp (xs : List D) (y : D) : ixDF h (.ktp xs) y = ixF h (.ktp xs) y := by unfold ixDF; rw [dgetF_no rfl rfl]
@[simp] theorem ixDF_lst (xs : List D) (y : D) : ixDF h (.lst xs) y = ixF h (.lst xs) y := by unfold ixDF; rw [dgetF_no rfl rfl]
@[simp] theorem ixDF_rol (xs : List D) (y : D) : ixDF h (.rol xs) y = ixF h (.rol xs) y := by unfold ixDF; rw [dgetF_no rfl rfl]
@[simp] theorem ixDF_str (s : Str) (y : D) : ixDF h (.str s) y = ixF h (.str s) y := by unfold ixDF; rw [dgetF_no rfl rfl]
@[simp] theorem ixDF_dctS (ks us : List D) (s : Str) : ixDF h (.dct ks us) (.str s) = valD ks us (.inr s) := by simp [ixDF, dgetF, dctOf, keyD]
@[simp] theorem ixDF_dctI (ks us : List D) (i : Int) : ixDF h (.dct ks us) (.int i) = valD ks us (.inl i) := by simp [ixDF, dgetF, dctOf, keyD]
@[simp] theorem cInD_tup (x : D) (xs : List D) : cInD x (.tup xs) h = cInX x (.tup xs) h := by unfold cInD; rw [dgetF_no rfl rfl]
@[simp] theorem cInD_ktp (x : D) (xs : List D) : cInD x (.ktp xs) h = cInX x (.ktp xs) h := by unfold cInD; rw [dgetF_no rfl rfl]
@[simp] theorem cInD_lst (x : D) (xs : List D) : cInD x (.lst xs) h = cInX x (.lst xs) h := by unfold cInD; rw [dgetF_no rfl rfl]
@[simp] theorem cInD_str (x : D) (s : Str) : cInD x (.str s) h = cInX x (.str s) h := by unfold cInD; rw [dgetF_no rfl rfl]
@[simp] theorem cNotInD_tup (x : D) (xs : List D) : cNotInD x (.tup xs) h = cNotInX x (.tup xs) h := by unfold cNotInD; rw [dgetF_no rfl rfl]
@[simp] theorem cNotInD_ktp (x : D) (xs : List D) : cNotInD x (.ktp xs) h = cNotInX x (.ktp xs) h := by unfold cNotInD; rw [dgetF_no rfl rfl]
@[simp] theorem cNotInD_lst (x : D) (xs : List D) : cNotInD x (.lst xs) h = cNotInX x (.lst xs) h := by unfold cNotInD; rw [dgetF_no rfl rfl]
@[simp] theorem cNotInD_str (x : D) (s : Str) : cNotInD x (.str s) h = cNotInX x (.str s) h := by unfold cNotInD; rw [dgetF_no rfl rfl]
@[simp] theorem cInD_dctI (i : Int) (ks us : List D) : cInD (.int i) (.dct ks us) h = .ok (valD ks us (.inl i)).isSome h := by simp [cInD, dgetF, dctOf, keyD]
@[simp] theorem cInD_dctS (s : Str) (ks us : List D) : cInD (.str s) (.dct ks us) h = .ok (valD ks us (.inr s)).isSome h := by simp [cInD, dgetF, dctOf, keyD]
@[simp] theorem cNotInD_dctI (i : Int) (ks us : List D) : cNotInD (.int i) (.dct ks us) h = .ok (!(valD ks us (.inl i)).isSome) h := by simp [cNotInD, dgetF, dctOf, keyD]
@[simp] theorem srtDF_dct (ks us : List D) : srtDF [.dct ks us] h = match keysI ks with
  | some ns => if ns.length < 64 then .ok (.new (.lst ((srtI ns).map .int))) h else .bad
  | none => .bad := rfl
@[simp] theorem srtDF_lst (xs : List D) : srtDF [.lst xs] h = srtF [.lst xs] h := rfl
@[simp] theorem listDF_dct (ks us : List D) : listDF [.dct ks us] h = .ok (.new (.lst ks)) h := rfl
@[simp] theorem listDF_lst (xs : List D) : listDF [.lst xs] h = listF [.lst xs] h := rfl
@[simp] theorem listDF_rol (xs : List D) : listDF [.rol xs] h = listF [.rol xs] h := rfl
@[simp] theorem listDF_tup (xs : List D) : listDF [.tup xs] h = listF [.tup xs] h := rfl
@[simp] theorem dictF_dct (ks us : List D) : dictF [.dct ks us] h = .ok (.new (.dct ks us)) h := rfl
@[simp] theorem enumF_tup (xs : List D) : enumF h [.tup xs] = some ⟨enumD xs, fun _ => True⟩ := rfl
@[simp] theorem enumF_ktp (xs : List D) : enumF h [.ktp xs] = some ⟨enumD xs, fun _ => True⟩ := rfl
@[simp] theorem enumF_lst (xs : List D) : enumF h [.lst xs] = some ⟨enumD xs, fun h => lstOf h (.lst xs) = some xs⟩ := rfl
def fzVK (i : Nat) (m : MS) (ρ : Env) : Res D → Fl
  | .ok d h => m (ρ.set i (some d)) h
  | _ => .bad
@[simp] theorem fzVK_ok (i : Nat) (m : MS) (ρ : Env) (d : D) (h : Hd) : fzVK i m ρ (.ok d h) = m (ρ.set i (some d)) h := rfl
def lrgK1 : Res D → Res O
  | .ok (.int j) h => if 0 ≤ j ∧ j ≤ 16777216 then .ok (.new (.lst (rangeD 0 j.toNat))) h else .bad
  | .ok _ _ => .bad
  | .exc x h => .exc x h
  | .bad => .bad
@[simp] theorem mLRg1_k (ma : ME) (ρ : Env) (h : Hd) : mLRg1 ma ρ h = lrgK1 (ma ρ h) := by
  unfold mLRg1 lrgK1
  cases ma ρ h with
  | ok d h1 => cases d <;> rfl
  | exc x h1 => rfl
  | bad => rfl
@[simp] theorem lrgK1_ok (j : Int) (h : Hd) : lrgK1 (.ok (.int j) h) = if 0 ≤ j ∧ j ≤ 16777216 then .ok (.new (.lst (rangeD 0 j.toNat))) h else .bad := rfl
def lrgK2 (i : Int) : Res D → Res O
  | .ok (.int j) h => if 0 ≤ i ∧ i ≤ 16777216 ∧ 0 ≤ j ∧ j ≤ 16777216 then .ok (.new (.lst (rangeD i (j - i).toNat))) h else .bad
  | .ok _ _ => .bad
  | .exc x h => .exc x h
  | .bad => .bad
def lrgKA (mb : ME) (ρ : Env) : Res D → Res O
  | .ok (.int i) h => lrgK2 i (mb ρ h)
  | .ok _ h => (mb ρ h).bind fun _ _ => .bad
  | .exc x h => .exc x h
  | .bad => .bad
@[simp] theorem mLRg2_k (ma mb : ME) (ρ : Env) (h : Hd) : mLRg2 ma mb ρ h = lrgKA mb ρ (ma ρ h) := by
  unfold mLRg2 lrgKA
  cases ma ρ h with
  | ok d h1 =>
    cases d with
    | int i =>
      show (mb ρ h1).bind _ = lrgK2 i (mb ρ h1)
      unfold lrgK2
      cases mb ρ h1 with
      | ok d2 h2 => cases d2 <;> rfl
      | exc x h2 => rfl
      | bad => rfl
    | _ => rfl
  | exc x h1 => rfl
  | bad => rfl
@[simp] theorem lrgKA_ok (mb : ME) (ρ : Env) (i : Int) (h : Hd) : lrgKA mb ρ (.ok (.int i) h) = lrgK2 i (mb ρ h) := rfl
@[simp] theorem lrgK2_ok (i j : Int) (h : Hd) : lrgK2 i (.ok (.int j) h) = if 0 ≤ i ∧ i ≤ 16777216 ∧ 0 ≤ j ∧ j ≤ 16777216 then .ok (.new (.lst (rangeD i (j - i).toNat))) h else .bad := rfl
end
def refIx : Option Cell → D → Option D
  | some (.lst xs), .int i => atI xs i
  | some (.dct ks us), .int i => valD ks us (.inl i)
  | some (.dct ks us), .str s => valD ks us (.inr s)
  | some (.lkd ks us), .int i => valD ks us (.inl i)
  | some (.lkd ks us), .str s => valD ks us (.inr s)
  | _, _ => none
@[simp] theorem refIx_lkdI (ks us : List D) (i : Int) : refIx (some (.lkd ks us)) (.int i) = valD ks us (.inl i) := rfl
@[simp] theorem refIx_lkdS (ks us : List D) (s : Str) : refIx (some (.lkd ks us)) (.str s) = valD ks us (.inr s) := rfl
@[simp] theorem refIx_lst (xs : List D) (i : Int) : refIx (some (.lst xs)) (.int i) = atI xs i := rfl
@[simp] theorem refIx_dctI (ks us : List D) (i : Int) : refIx (some (.dct ks us)) (.int i) = valD ks us (.inl i) := rfl
@[simp] theorem refIx_dctS (ks us : List D) (s : Str) : refIx (some (.dct ks us)) (.str s) = valD ks us (.inr s) := rfl
@[simp] theorem ixDF_refI {h : Hd} {r : Nat} (i : Int) : ixDF h (.ref r) (.int i) = refIx h[r]? (.int i) := by
  unfold ixDF
  cases e : h[r]? with
  | none => rw [dgetF_no (by simp [dctOf, e]) (by simp [dttOf, e])]; simp [ixF, seqOf, lstOf, e, refIx]
  | some z =>
    cases z with
    | lst xs => rw [dgetF_no (by simp [dctOf, e]) (by simp [dttOf, e])]; simp [ixF, seqOf, lstOf, e]
    | dct ks us => simp [dgetF, dctOf, e, keyD]
    | dtt ks us => simp [dgetF, dctOf, dttOf, e, keyD, tkeyD, ixF, seqOf, lstOf, refIx]
    | ins n ns us => rw [dgetF_no (by simp [dctOf, e]) (by simp [dttOf, e])]; simp [ixF, seqOf, lstOf, e, refIx]
    | lkd ks us => simp [dgetF, dctOf, e, keyD]
    | lkt ks us => simp [dgetF, dctOf, dttOf, e, keyD, tkeyD, ixF, seqOf, lstOf, refIx]
    | gone => rw [dgetF_no (by simp [dctOf, e]) (by simp [dttOf, e])]; simp [ixF, seqOf, lstOf, e, refIx]
@[simp] theorem ixDF_refS {h : Hd} {r : Nat} (s : Str) : ixDF h (.ref r) (.str s) = refIx h[r]? (.str s) := by
  unfold ixDF
  cases e : h[r]? with
  | none => rw [dgetF_no (by simp [dctOf, e]) (by simp [dttOf, e])]; simp [ixF, refIx]
  | some z =>
    cases z with
    | lst xs => rw [dgetF_no (by simp [dctOf, e]) (by simp [dttOf, e])]; simp [ixF, refIx]
    | dct ks us => simp [dgetF, dctOf, e, keyD]
    | dtt ks us => simp [dgetF, dctOf, dttOf, e, keyD, tkeyD, ixF, refIx]
    | ins n ns us => rw [dgetF_no (by simp [dctOf, e]) (by simp [dttOf, e])]; simp [ixF, refIx]
    | lkd ks us => simp [dgetF, dctOf, e, keyD]
    | lkt ks us => simp [dgetF, dctOf, dttOf, e, keyD, tkeyD, ixF, refIx]
    | gone => rw [dgetF_no (by simp [dctOf, e]) (by simp [dttOf, e])]; simp [ixF, refIx]
@[simp] theorem startD_4 (n : Nat) (a b c d : D) : startD n [a, b, c, d] = some a :: some b :: some c :: some d :: List.replicate (n - 4) none := by simp [startD]
@[simp] theorem startD_5 (n : Nat) (a b c d e : D) : startD n [a, b, c, d, e] = some a :: some b :: some c :: some d :: some e :: List.replicate (n - 5) none := by simp [startD]
@[simp] theorem startD_6 (n : Nat) (a b c d e f : D) : startD n [a, b, c, d, e, f] = some a :: some b :: some c :: some d :: some e :: some f :: List.replicate (n - 6) none := by simp [startD]
@[simp] theorem gStarM_lst (i : Nat) (gs : MGs) (xs : List D) (ρ : Env) (h : Hd) : gStarM i gs (.lst xs) ρ h = if i ≤ xs.length ∧ xs.length ≤ 16384 then gs (xs.take i ++ [.lst (xs.drop i)]) ρ h else .bad := rfl
end DD
namespace L2
open PySem PySem.Spec PyProof.Rows
end L2
namespace DD
open PySem PySem.Spec L2 RZ
def slcF (o : D) (l u : Option Int) (d : D) (h : Hd) : Option Hd := match o, l, u, d with
  | .ref r, some a, some c, .lst ys => match h[r]? with
    | some (.lst xs) => if 0 ≤ a ∧ a ≤ c ∧ c ≤ xs.length ∧ xs.length + ys.length ≤ sizeLine then some (h.set r (.lst (xs.take a.toNat ++ ys ++ xs.drop c.toNat))) else none
    | _ => none
  | _, _, _, _ => none
def gSlc (mo : ME) (ml mh : MO) : MG := fun d ρ h => (mo ρ h).bind fun o h => (ml ρ h).bind fun l h => (mh ρ h).bind fun u h => match slcF o l u d h with
  | some h' => .ok ρ h'
  | none => .bad
end DD
namespace L2
open PySem PySem.Spec PyProof.Rows
end L2
namespace DD
open PySem PySem.Spec L2 RZ
def mKGet2 (x : Str) (kvs : List (Str × D)) (mk mc : ME) : ME := fun ρ h => (mk ρ h).bind fun y h => (mc ρ h).bind fun c h => match y with
  | .str z => .ok ((kvs.lookup z).getD c) h
  | _ => .bad
section
variable {X : Cx} {W : WX} {e f : Expr} {mk mc : ME} {pos apos cpos p : Pos} {x : Str} {kvs : List (Str × D)} {k : Nat}
def kget2K2 (kvs : List (Str × D)) (y : D) : Res D → Res D
  | .ok c h => match y with
    | .str z => .ok ((kvs.lookup z).getD c) h
    | _ => .bad
  | .exc x h => .exc x h
  | .bad => .bad
def kget2K (kvs : List (Str × D)) (mc : ME) (ρ : Env) : Res D → Res D
  | .ok y h => kget2K2 kvs y (mc ρ h)
  | .exc x h => .exc x h
  | .bad => .bad
@[simp] theorem kget2K_ok (mc : ME) (ρ : Env) (y : D) (h : Hd) : kget2K kvs mc ρ (.ok y h) = kget2K2 kvs y (mc ρ h) := rfl
@[simp] theorem kget2K2_ok (z : Str) (c : D) (h : Hd) : kget2K2 kvs (.str z) (.ok c h) = .ok ((kvs.lookup z).getD c) h := rfl
@[simp] theorem mKGet2_k (n : Str) (kvs : List (Str × D)) (mk mc : ME) (ρ : Env) (h : Hd) : mKGet2 n kvs mk mc ρ h = kget2K kvs mc ρ (mk ρ h) := by
  unfold mKGet2 kget2K
  cases mk ρ h with
  | ok d h =>
    show (mc ρ h).bind _ = kget2K2 kvs d (mc ρ h)
    unfold kget2K2
    cases mc ρ h <;> rfl
  | _ => rfl
end
section
variable {ρ : Env} {h : Hd}
def slcK4 (ρ : Env) : Option Hd → Res Env
  | some h => .ok ρ h
  | none => .bad
def slcK3 (ρ : Env) (d o : D) (l : Option Int) : Res (Option Int) → Res Env
  | .ok u h => slcK4 ρ (slcF o l u d h)
  | .exc x h => .exc x h
  | .bad => .bad
def slcK2 (mh : MO) (ρ : Env) (d o : D) : Res (Option Int) → Res Env
  | .ok l h => slcK3 ρ d o l (mh ρ h)
  | .exc x h => .exc x h
  | .bad => .bad
def slcK (ml mh : MO) (ρ : Env) (d : D) : Res D → Res Env
  | .ok o h => slcK2 mh ρ d o (ml ρ h)
  | .exc x h => .exc x h
  | .bad => .bad
@[simp] theorem slcK4_some (h : Hd) : slcK4 ρ (some h) = .ok ρ h := rfl
@[simp] theorem slcK3_ok (d o : D) (l u : Option Int) (h : Hd) : slcK3 ρ d o l (.ok u h) = slcK4 ρ (slcF o l u d h) := rfl
@[simp] theorem slcK2_ok (mh : MO) (d o : D) (l : Option Int) (h : Hd) : slcK2 mh ρ d o (.ok l h) = slcK3 ρ d o l (mh ρ h) := rfl
@[simp] theorem slcK_ok (ml mh : MO) (d o : D) (h : Hd) : slcK ml mh ρ d (.ok o h) = slcK2 mh ρ d o (ml ρ h) := rfl
@[simp] theorem gSlc_k (mo : ME) (ml mh : MO) (d : D) (ρ : Env) (h : Hd) : gSlc mo ml mh d ρ h = slcK ml mh ρ d (mo ρ h) := by
  unfold gSlc slcK
  cases mo ρ h with
  | ok o h =>
    show (ml ρ h).bind _ = slcK2 mh ρ d o (ml ρ h)
    unfold slcK2
    cases ml ρ h with
    | ok l h =>
      show (mh ρ h).bind _ = slcK3 ρ d o l (mh ρ h)
      unfold slcK3
      cases mh ρ h with
      | ok u h =>
        show (match slcF o l u d h with | some h' => Res.ok ρ h' | none => Res.bad) = slcK4 ρ (slcF o l u d h)
        cases slcF o l u d h <;> rfl
      | _ => rfl
    | _ => rfl
  | _ => rfl
end
noncomputable def strAF : List D → Hd → Res O
  | [.int i], h => if i.natAbs.log2 < 1920 then .ok (.val (.str (itoS i))) h else .bad
  | [.str s], h => .ok (.val (.str s)) h
  | ds, h => reprF ds h
@[simp] theorem strAF_int (i : Int) (h : Hd) : strAF [.int i] h = if i.natAbs.log2 < 1920 then .ok (.val (.str (itoS i))) h else .bad := rfl
@[simp] theorem strAF_str (s : Str) (h : Hd) : strAF [.str s] h = .ok (.val (.str s)) h := rfl
@[simp] theorem strAF_tup (xs : List D) (h : Hd) : strAF [.tup xs] h = reprF [.tup xs] h := rfl
section
variable {c : Ct} {w : Wd} {h : Hd} {H : Hp} {a : Addr} {z y : Cell} {u : HO} {od : Obj} {r : Nat}
theorem set_at {α : Type} {l : List α} {r : Nat} {z : α} (y : α) (q : l[r]? = some z) : (l.set r y)[r]? = some y := by
  rw [List.getElem?_set_self (List.getElem?_eq_some_iff.mp q).1]
theorem SR.lock (s : SR c w h H) (q : h[r]? = some z) (g : ¬ deadC z) (e : w.φ r = some a) (eo : H a = some u) (ly : isLk y = true) (yg : y ≠ .gone) (k : CellOk c w (upd H a (.frz od u)) a y) :
    SR c { w with P := upd w.P a (.frz od u) } (h.set r y) (upd H a (.frz od u)) := by
  obtain ⟨a', q1, q2, q3s, q4⟩ := s.cell r z q (dn g)
  rw [e] at q1; cases q1
  have q3 := noP q3s (dl g)
  have pl := q4.plain (dn g) eo
  have ne := s.tab.ne (a := a) fun ps z => pl.1 ps (Option.some.inj (eo.symm.trans z))
  refine ⟨fun b o x => ?_, fun b o x => ?_, fun b o x => ?_, fun r' y' x gy => ?_, s.inj, fun r' b x => ?_, ?_, fun r' b x e' => ?_⟩
  · rw [upd_ne (by rintro rfl; have x' : w.F b = some o := x; rw [q2] at x'; cases x')]; exact s.F b o x
  · have x' : upd w.P a (.frz od u) b = some o := x
    by_cases hb : b = a
    · subst hb; rw [upd_same] at x' ⊢; exact x'
    · rw [upd_ne hb] at x' ⊢; exact s.P b o x'
  · have x' : upd w.P a (.frz od u) b = some o := x
    by_cases hb : b = a
    · subst hb
      rw [upd_same] at x'; cases x'
      refine ⟨q2, fun r' z' => ?_⟩
      have er : r' = r := s.inj r' r _ z' e
      subst er
      exact ⟨rfl, y, set_at y q, ly⟩
    · rw [upd_ne hb] at x'
      refine ⟨(s.pin b o x').1, fun r' z' => ?_⟩
      obtain ⟨e0, v, e1, e2⟩ := (s.pin b o x').2 r' z'
      refine ⟨e0, v, ?_, e2⟩
      rw [List.getElem?_set_ne]
      · exact e1
      · rintro rfl
        have z'' : w.φ r = some b := z'
        rw [e] at z''; cases z''; exact hb rfl
  · by_cases hr : r = r'
    · subst hr
      rw [set_at y q] at x; cases x
      exact ⟨a, e, q2, by show (upd w.P a _ a).isSome = _; rw [upd_same, ly]; rfl, k.le0 (Le0.P w _) rfl⟩
    · rw [List.getElem?_set_ne hr] at x
      obtain ⟨b, p1, p2, p3, p4⟩ := s.cell r' y' x gy
      have hb : b ≠ a := by rintro rfl; exact hr (s.inj r r' _ e p1)
      exact ⟨b, p1, p2, by show (upd w.P a _ b).isSome = _; rw [upd_ne hb]; exact p3, p4.le0 (Le0.P w _) (upd_ne hb)⟩
  · obtain ⟨x1, o, y1⟩ := s.dom r' b x
    refine ⟨by simpa using x1, ?_⟩
    by_cases hb : b = a
    · subst hb; exact ⟨_, upd_same⟩
    · exact ⟨o, by rw [upd_ne hb]; exact y1⟩
  · have t := s.tab.upd ne (.frz od u)
    refine ⟨fun P l => ?_, s.tab.nF, fun b v x => ?_⟩
    · obtain ⟨e1, x1, x2, x3⟩ := t.tb P l
      exact ⟨e1, x1, by show upd w.P a _ P = none; rw [upd_ne (ne P l)]; exact x2, x3⟩
    · have x' : upd w.P a (.frz od u) b = some v := x
      by_cases hb : b = a
      · subst hb; rw [upd_same] at x'; cases x'; exact ⟨plain_frz _ _, fun _ z => by cases z⟩
      · rw [upd_ne hb] at x'; exact s.tab.nP b v x'
  · by_cases hr : r = r'
    · subst hr
      rw [set_at y q] at x; cases x; exact absurd rfl yg
    · rw [List.getElem?_set_ne hr] at x
      exact s.ng r' b x e'
theorem SR.unlock {P0 : Hp} (s : SR c w h H) (q : h[r]? = some y) (yg : y ≠ .gone) (e : w.φ r = some a) (eP : w.P = upd P0 a (.frz od u)) (n : P0 a = none) (lz : ¬ deadC z) (pu : plainO u) (k : CellOk c w (upd H a u) a z) :
    SR c { w with P := P0 } (h.set r z) (upd H a u) := by
  obtain ⟨a', q1, q2, q3s, q4⟩ := s.cell r y q yg
  rw [e] at q1; cases q1
  have ea : w.P a = some (.frz od u) := by rw [eP, upd_same]
  have eH := s.P a _ ea
  have sub : ∀ b v, P0 b = some v → b ≠ a ∧ w.P b = some v := fun b v x => by
    have hb : b ≠ a := by rintro rfl; rw [n] at x; cases x
    exact ⟨hb, by rw [eP, upd_ne hb]; exact x⟩
  have ne := s.tab.ne (a := a) fun ps z => by rw [eH] at z; cases z
  refine ⟨fun b o x => ?_, fun b o x => ?_, fun b o x => ?_, fun r' y' x gy => ?_, s.inj, fun r' b x => ?_, ?_, fun r' b x e' => ?_⟩
  · rw [upd_ne (by rintro rfl; have x' : w.F b = some o := x; rw [q2] at x'; cases x')]; exact s.F b o x
  · obtain ⟨hb, x'⟩ := sub b o x
    rw [upd_ne hb]; exact s.P b o x'
  · obtain ⟨hb, x'⟩ := sub b o x
    refine ⟨(s.pin b o x').1, fun r' z' => ?_⟩
    obtain ⟨e0, v, e1, e2⟩ := (s.pin b o x').2 r' z'
    refine ⟨e0, v, ?_, e2⟩
    rw [List.getElem?_set_ne]
    · exact e1
    · rintro rfl
      have z'' : w.φ r = some b := z'
      rw [e] at z''; cases z''; exact hb rfl
  · by_cases hr : r = r'
    · subst hr
      rw [set_at z q] at x; cases x
      exact ⟨a, e, q2, by show (P0 a).isSome = _; rw [n, dl lz]; rfl, k.le0 (Le0.P w _) rfl⟩
    · rw [List.getElem?_set_ne hr] at x
      obtain ⟨b, p1, p2, p3, p4⟩ := s.cell r' y' x gy
      have hb : b ≠ a := by rintro rfl; exact hr (s.inj r r' _ e p1)
      exact ⟨b, p1, p2, by show (P0 b).isSome = _; rw [← p3, eP, upd_ne hb], p4.le0 (Le0.P w _) (upd_ne hb)⟩
  · obtain ⟨x1, o, y1⟩ := s.dom r' b x
    refine ⟨by simpa using x1, ?_⟩
    by_cases hb : b = a
    · subst hb; exact ⟨_, upd_same⟩
    · exact ⟨o, by rw [upd_ne hb]; exact y1⟩
  · have t := s.tab.upd ne u
    refine ⟨fun P l => ?_, s.tab.nF, fun b v x => s.tab.nP b v (sub b v x).2⟩
    obtain ⟨e1, x1, x2, x3⟩ := t.tb P l
    refine ⟨e1, x1, ?_, x3⟩
    show P0 P = none
    cases qq : P0 P with
    | none => rfl
    | some v => have := (sub P v qq).2; rw [x2] at this; cases this
  · by_cases hr : r = r'
    · subst hr
      rw [set_at z q] at x; cases x; exact absurd .gone lz
    · rw [List.getElem?_set_ne hr] at x
      exact s.ng r' b x e'
end
def lkH (r : Nat) (h : Hd) : Option Hd := match h[r]? with
  | some (.dct ks us) => some (h.set r (.lkd ks us))
  | some (.dtt ks us) => some (h.set r (.lkt ks us))
  | _ => none
def unlkH (r : Nat) (h : Hd) : Option Hd := match h[r]? with
  | some (.lkd ks us) => some (h.set r (.dct ks us))
  | some (.lkt ks us) => some (h.set r (.dtt ks us))
  | _ => none
def unlkF (r : Nat) : Fl → Fl
  | .nx ρ h => match unlkH r h with | some h => .nx ρ h | none => .bad
  | .rt d h => match unlkH r h with | some h => .rt d h | none => .bad
  | .bk ρ h => match unlkH r h with | some h => .bk ρ h | none => .bad
  | .ct ρ h => match unlkH r h with | some h => .ct ρ h | none => .bad
  | _ => .bad
def mLk (i : Nat) (m : MS) : MS := fun ρ h => match ρ[i]? with
  | some (some (.ref r)) => match lkH r h with
    | some h1 => unlkF r (m ρ h1)
    | none => m ρ h
  | _ => m ρ h
theorem PS.or {X : Cx} {st : Stmt} {t t' : TS} (h : PS X st t) (h' : PS X st t') : PS X st (fun Dn σ H => t Dn σ H ∨ t' Dn σ H) := ⟨fun pins s σ H Dn I q => q.elim (h.run pins s σ H Dn I) (h'.run pins s σ H Dn I)⟩
section
variable {c : Ct} {W : WX} {w : Wd} {h h1 : Hd} {H : Hp} {r : Nat} {Dn : Ends}
/-- the way back, at one end -/
theorem unlk_end {a : Addr} {u : HO} {od : Obj} {w2 : Wd} {h2 h3 : Hd} {H2 : Hp} (f : w.φ r = some a) (n : w.P a = none) (mu : plainO u)
    (l : Le { w with P := upd w.P a (.frz od u) } w2) (s2 : SR c w2 h2 H2) (q : unlkH r h2 = some h3) :
    ∃ w3, Le w w3 ∧ Le0 w2 w3 ∧ SR c w3 h3 (upd H2 a u) := by
  have e2 : w2.φ r = some a := l.φ r a f
  have eP : w2.P = upd w.P a (.frz od u) := l.P
  have eH : H2 a = some (.frz od u) := s2.P a _ (by rw [eP, upd_same])
  refine ⟨{ w2 with P := w.P }, ⟨⟨l.F, l.φ⟩, rfl⟩, Le0.P w2 _, ?_⟩
  unfold unlkH at q
  cases ez : h2[r]? with
  | none => rw [ez] at q; cases q
  | some y =>
    rw [ez] at q
    cases y with
    | lkd ks us =>
      cases q
      obtain ⟨a', q1, q2, q3, od', kvs, q4, k, z⟩ := s2.cell r _ ez (by rintro ⟨⟩)
      rw [e2] at q1; cases q1
      rw [eH] at q4; cases q4
      exact s2.unlock ez (by rintro ⟨⟩) e2 eP n (by rintro ⟨⟩) mu ⟨kvs, upd_same, k, z.le0 (Le0.P w2 _)⟩
    | lkt ks us =>
      cases q
      obtain ⟨a', q1, q2, q3, od', kvs, q4, k, z⟩ := s2.cell r _ ez (by rintro ⟨⟩)
      rw [e2] at q1; cases q1
      rw [eH] at q4; cases q4
      exact s2.unlock ez (by rintro ⟨⟩) e2 eP n (by rintro ⟨⟩) mu ⟨kvs, upd_same, k, z.le0 (Le0.P w2 _)⟩
    | _ => cases q
end
section
variable {X : Cx} {W : WX} {st : Stmt} {m : MS}
theorem lk_in {w : Wd} {ρ : Env} {h h1 : Hd} {H : Hp} {σ : St} {r i : Nat} {Dn : Ends} (er : ER (Cx.ct X) w ρ σ) (s : SR (Cx.ct X) w h H) (q : lkH r h = some h1) (p : PostS (Cx.ct X) w W (unlkF r (m ρ h1)) Dn) : tLock (tS (Cx.ct X) W m) Dn σ H := by
  have key : ∃ a u z, w.φ r = some a ∧ w.P a = none ∧ H a = some u ∧ plainO u ∧ Mut (some u) ∧ ∀ od, SR (Cx.ct X) { w with P := upd w.P a (.frz od u) } h1 (upd H a (.frz od u)) ∧ z = r := by
    unfold lkH at q
    cases ez : h[r]? with
    | none => rw [ez] at q; cases q
    | some y =>
      rw [ez] at q
      cases y with
      | dct ks us =>
        cases q
        obtain ⟨a, q1, q2, q3, kvs, q4, k, z⟩ := s.cell r _ ez (by rintro ⟨⟩)
        refine ⟨a, _, r, q1, noP q3 rfl, q4, plain_dK kvs, trivial, fun od => ⟨?_, rfl⟩⟩
        exact s.lock ez (by rintro ⟨⟩) q1 q4 rfl (by rintro ⟨⟩) ⟨od, kvs, upd_same, k, z⟩
      | dtt ks us =>
        cases q
        obtain ⟨a, q1, q2, q3, kvs, q4, k, z⟩ := s.cell r _ ez (by rintro ⟨⟩)
        refine ⟨a, _, r, q1, noP q3 rfl, q4, plain_dT kvs, trivial, fun od => ⟨?_, rfl⟩⟩
        exact s.lock ez (by rintro ⟨⟩) q1 q4 rfl (by rintro ⟨⟩) ⟨od, kvs, upd_same, k, z⟩
      | _ => cases q
  obtain ⟨a, u, z, f, n, e, pl, mu, k⟩ := key
  refine ⟨a, u, e, mu, fun od => ⟨_, ρ, h1, er.le0 (Le0.P w _), (k od).1, ?_⟩⟩
  have eP : ∀ {w2 : Wd} {h2 : Hd} {H2 : Hp}, Le { w with P := upd w.P a (.frz od u) } w2 → SR (Cx.ct X) w2 h2 H2 → H2 a = some (.frz od u) := fun l s2 => s2.P a _ (by rw [l.P]; exact upd_same)
  cases em : m ρ h1 with
  | nx ρ2 h2 =>
    rw [em] at p
    intro σ2 w2 H2 l e2 s2
    refine ⟨eP l s2, ?_⟩
    simp only [unlkF] at p
    cases eu : unlkH r h2 with
    | none => rw [eu] at p; exact p.elim
    | some h3 =>
      rw [eu] at p
      obtain ⟨w3, l3, l0, s3⟩ := unlk_end f n pl l s2 eu
      exact p σ2 w3 _ l3 (e2.le0 l0) s3
  | bk ρ2 h2 =>
    rw [em] at p
    intro σ2 w2 H2 l e2 s2
    refine ⟨eP l s2, ?_⟩
    simp only [unlkF] at p
    cases eu : unlkH r h2 with
    | none => rw [eu] at p; exact p.elim
    | some h3 =>
      rw [eu] at p
      obtain ⟨w3, l3, l0, s3⟩ := unlk_end f n pl l s2 eu
      exact p σ2 w3 _ l3 (e2.le0 l0) s3
  | ct ρ2 h2 =>
    rw [em] at p
    intro σ2 w2 H2 l e2 s2
    refine ⟨eP l s2, ?_⟩
    simp only [unlkF] at p
    cases eu : unlkH r h2 with
    | none => rw [eu] at p; exact p.elim
    | some h3 =>
      rw [eu] at p
      obtain ⟨w3, l3, l0, s3⟩ := unlk_end f n pl l s2 eu
      exact p σ2 w3 _ l3 (e2.le0 l0) s3
  | rt d2 h2 =>
    rw [em] at p
    intro v2 w2 H2 l e2 s2
    refine ⟨eP l s2, ?_⟩
    simp only [unlkF] at p
    cases eu : unlkH r h2 with
    | none => rw [eu] at p; exact p.elim
    | some h3 =>
      rw [eu] at p
      obtain ⟨w3, l3, l0, s3⟩ := unlk_end f n pl l s2 eu
      exact p v2 w3 _ l3 (e2.le0 l0) s3
  | exc x ρ2 h2 => rw [em] at p; exact p.elim
  | bad => rw [em] at p; exact p.elim
/-- the statement runs while the own dict that variable i holds is locked -/
theorem s_lock (i : Nat) (hs : SS X W st m) : SS X W st (mLk i m) := PS.imp (PS.or (ps_lock hs) hs) fun Dn σ H ⟨w, ρ, h, er, s, p⟩ => by
  unfold mLk at p
  split at p
  · split at p
    · exact .inl (lk_in (i := i) er s (by assumption) p)
    · exact .inr ⟨w, ρ, h, er, s, p⟩
  · exact .inr ⟨w, ρ, h, er, s, p⟩
end
section
variable {X : Cx} {pins : List (Addr × Obj)} {σ : L2.St} {H H' : Hp} {s : Shared} {E : Value → Shared → Prop} {D : Addr} {y v : V} {u r : Value}
/-- one store of the loop, a key of either sort -/
theorem dset_of {Q : Unit → Shared → Prop} (room : X.A.units + 1 < cLine) (I : Inv X pins σ H s) (p : DPut H D y v H') (ry : RelV y u) (rv : RelV v r) (go : ∀ s', Inv X pins σ H' s' → Q () s') :
    wpAny (model X.prog X.w) X.A (dictSet D u r) Q E s := by
  obtain ⟨kvs, k, e, rfl, l, rfl⟩ | ⟨kvs, k, b, e, rfl, eb, l, rfl⟩ := p
  · exact d_dictSet I e l ry rv go
  · cases (show u = Value.ref b from ry)
    obtain ⟨n, nm, xs, pr, rest⟩ := dt_of I.hok e
    have n1 : xs.length ≤ sizeLine := Paired.length pr ▸ n
    have n2 : (putK kvs k v).length ≤ sizeLine := Nat.le_trans (length_putK kvs k v) (by omega)
    refine wpAny_dictSet_heap (hsz := n1) (show X.A.units < cLine by omega) (key_of I.hok eb) rest fun h2 rest2 same => go _ ?_
    obtain ⟨ob, es, ep, g1, g2, g3, g4, _, g5⟩ := rest2
    refine d_write I (by rw [e]; trivial) same ⟨ob, g1⟩ ⟨n2, nm, _, (pr.put k eb rv).keeps fun c ys ec => ?_, ob, es, ep, g1, g2, g3, g4, g5⟩
    rw [upd_ne (ne_of ec e (fun z => nomatch z))]; exact ec
end
/-- {k: v for target in iter if ..}: D the new dict, o0 what it is at first -/
def tDcP (o0 : HO) (wi : TI) (g : TG) (tt : TT) (tk tv : TE) (vs : List Nat) : TE := fun σ H Q => wi σ H fun J H1 => ∀ D, H1 D = none → ∃ P : Nat → Nat → Hp → Prop, (∃ m, P 0 m (upd H1 D o0)) ∧ ∀ i m H, P i m H →
  (J.stop i H ∧ Q (.ref D) H) ∨ (J.go i H ∧ ∃ Nx : Hp → Prop, (∀ H', Nx H' → ∃ m', m' < m ∧ P (i + 1) m' H') ∧ ∀ x H', J.yld i H x H' → g x (wipe σ vs) H' fun σ2 H2 => wipe σ2 vs = wipe σ vs ∧ tt σ2 H2 fun b H3 =>
    if b = true then tk σ2 H3 fun y H4 => tv σ2 H4 fun z H5 => ∃ H6, DPut H5 D y z H6 ∧ Nx H6 else Nx H3)
section
variable {X : Cx} {kx vx tg iter : Expr} {ifs : List Expr} {scope : Scope} {own : List (Str × Nat)} {pos : Pos} {wi : TI} {g : TG} {tt : TT} {tk tv : TE} {o0 : HO}
theorem dcP_core {pins : List (Addr × Obj)} {s0 : Shared} {σ : L2.St} {H0 : Hp} {Q : VK} {pos' : Pos} {use : Option (Value → Sem Unit)} {Qf : Value → Shared → Prop} (calm : X.calm = true) (room : X.A.units + 1 < cLine) (nd : X.N.Nodup) (over : PI X tg iter wi) (bo : BlkOk X.N X.env.scope scope own)
    (em : ∀ (H : Hp) (h : Heap), sysModules < h.objs.size → ObjOk X.prog X.w H (h.push { cls := .type "dict", data := .dict #[] }) h.objs.size o0)
    (tgt : ∀ (s : Shared) (H : Hp) (C : Addr) (cl : List (Str × Addr)) (fp : List Addr), PG (X.blk s H scope (compEnvC scope cl C X.env) fp) tg g)
    (tst : ∀ (s : Shared) (H : Hp) (C : Addr) (cl : List (Str × Addr)) (fp : List Addr), PTs (X.blk s H scope (compEnvC scope cl C X.env) fp) ifs tt)
    (key : ∀ (s : Shared) (H : Hp) (C : Addr) (cl : List (Str × Addr)) (fp : List Addr), PE (X.blk s H scope (compEnvC scope cl C X.env) fp) kx tk)
    (val : ∀ (s : Shared) (H : Hp) (C : Addr) (cl : List (Str × Addr)) (fp : List Addr), PE (X.blk s H scope (compEnvC scope cl C X.env) fp) vx tv)
    (fold : ∀ x, foldedSetIterable iter X.env x = pure x)
    (I0 : Inv X pins σ H0 s0) (go : tDcP o0 wi g tt tk tv (own.map (·.2)) σ H0 Q)
    (ends : ∀ D C s' m H', Inv X pins σ H' s' → Q (.ref D) H' → s'.heap.Ns C m → FpOk X pins H' C → compPost (model X.prog X.w) X.A X.xe use Qf (.ref D) C (.ok .next) s') :
    wpAny (model X.prog X.w) X.A (comprehension (.DictComp kx vx [⟨tg, iter, ifs, 0⟩] scope pos) scope X.env pos' newDict false (eval iter X.env) use) Qf X.xe s0 := by
  have held : ∀ y ∈ scope.names, y.2 = .free → ∃ c, X.env.cells.lookup y.1 = some c := fun y m e => (bo.free y m e).elim (fun k => I0.ok.has _ (.inl k)) fun k => I0.ok.has _ (.inr k)
  refine wpAny_comprehension_free (use := use) rfl fold (closure_ok held) bo.kind (fun y m e => by rw [bo.uniq y m, e]) (thn (over.run pins s0 σ H0 _ I0 go) fun _ _ k1 => thn k1 fun _ sA kA => ?_)
  obtain ⟨it, fp, tn, J, HA, rfl, IA, T, stA, fpA, turn0⟩ := kA
  refine wpAny_newObj_type (newEnv_comp ?_)
  obtain ⟨D, eD⟩ : ∃ D, D = sA.heap.objs.size := ⟨_, rfl⟩
  have none_D : HA D = none := IA.hok.fresh (Nat.le_of_eq eD.symm)
  obtain ⟨P, ⟨m0, p0⟩, turn⟩ := turn0 D none_D
  obtain ⟨sB, eB⟩ : ∃ sB : Shared, sB = { sA with heap := sA.heap.push { cls := .type "dict", data := .dict #[] } } := ⟨_, rfl⟩
  obtain ⟨HB, eHB⟩ : ∃ HB : Hp, HB = upd HA D o0 := ⟨_, rfl⟩
  have IB : Inv X pins σ HB sB := by
    subst eB eHB eD
    exact IA.laid (t' := sA.toks) (fun b o e => Heap.get?_push_of_some _ e) (Nat.le_refl _) (em _ _ IA.big)
  have below : ∀ b ∈ fp, b < sA.heap.objs.size := fun b m => let ⟨_, e, _⟩ := T.obj _ _ stA b m; Heap.lt_size e
  have heapB : sB.heap = sA.heap.push { cls := .type "dict", data := .dict #[] } := by rw [eB]
  have fpB : ∀ b ∈ fp, FpOk X pins HB b ∧ b < sB.heap.objs.size := fun b m => by
    have lt := below b m
    refine ⟨⟨?_, (fpA b m).2⟩, by rw [heapB, Heap.size_push]; exact Nat.lt_succ_of_lt lt⟩
    rw [eHB, upd_ne (by rw [eD]; exact Nat.ne_of_lt lt)]
    exact (fpA b m).1
  have stB : tn 0 sB.heap := T.keep _ _ _ stA fun b _ o e => by rw [heapB]; exact Heap.get?_push_of_some _ e
  have IC := block_start IB bo nd fpB
  obtain ⟨cl, ecl⟩ : ∃ cl, cl = cellsFrom (sB.heap.objs.size + 1) scope.names (cloFrom X.env.cells scope.names []) := ⟨_, rfl⟩
  obtain ⟨ce, ece⟩ : ∃ ce, ce = compEnvC scope cl sB.heap.objs.size X.env := ⟨_, rfl⟩
  obtain ⟨sC, eC⟩ : ∃ sC : Shared, sC = { sB with heap := pushCells (sB.heap.push { cls := .type "dict", data := .dict #[] }) scope.names } := ⟨_, rfl⟩
  rw [← ecl, ← ece, ← eC] at IC
  have tgt' := tgt sB HB sB.heap.objs.size cl fp
  have tst' := tst sB HB sB.heap.objs.size cl fp
  have key' := key sB HB sB.heap.objs.size cl fp
  have val' := val sB HB sB.heap.objs.size cl fp
  rw [← ece] at tgt' tst' key' val'
  have loc_ce : ce.locals = sB.heap.objs.size := by rw [ece]; rfl
  have stC : tn 0 sC.heap := T.keep _ _ _ stB fun b _ o e => by rw [eC]; exact pushCells_keeps _ _ _ _ (Heap.get?_push_of_some _ e)
  have iter_ok : ∀ {σ' : L2.St} {H' : Hp} {s' : Shared}, Inv (X.blk sB HB scope ce fp) [] σ' H' s' → (∀ b ∈ fp, H' b = none) → ∀ b ∈ fp, FpOk (X.blk sB HB scope ce fp) [] H' b := fun J' z b m =>
    ⟨z b m, (J'.ok.exf b m).1, J'.ok.exfs b m, .inl m, fun x c e => (J'.ok.exf b m).2 x c e, fun p hp => by cases hp⟩
  let Rr := compPost (model X.prog X.w) X.A X.xe use Qf (.ref D) sB.heap.objs.size
  have main : codeAny (model X.prog X.w) X.A (.compLoop (.DictComp kx vx [⟨tg, iter, ifs, 0⟩] scope pos) 0 (.ref it) (.ref D) ce) Rr sC := by
    refine compLoop_anyD (fun n s' => ∃ i H', Inv (X.blk sB HB scope ce fp) [] (wipe σ (own.map (·.2))) H' s' ∧ tn i s'.heap ∧ (∀ b ∈ fp, H' b = none) ∧ P i n H') ?_ m0 ⟨0, HB, IC, stC, fun b m => (fpB b m).1.1, eHB ▸ p0⟩
    rintro n s1 ⟨i, H1, I1, st1, z1, p1⟩
    obtain ⟨stop, fin⟩ | ⟨on, Nx, less, body⟩ := turn i n H1 p1
    · refine thnF (T.done (X.blk sB HB scope ce fp) rfl rfl rfl calm i [] s1 _ H1 (fun _ _ => False) I1 (iter_ok I1 z1) st1 stop) fun _ s2 ⟨er, I2⟩ => ?_
      subst er
      have I3 : Inv X pins σ H1 s2 := IB.call' (ch := fp) I2.os I2.base I2.hok I2.bare fun b m => by
        obtain ⟨_, a1, a2, a3, a4, a5⟩ := (fpB b m).1
        exact ⟨a3, a1, a4, a5⟩
      have zC : H1 sB.heap.objs.size = none := loc_ce ▸ (I2.free : H1 ce.locals = none)
      obtain ⟨m, ns, _⟩ := I2.loc
      have ns' : s2.heap.Ns sB.heap.objs.size m := loc_ce ▸ (ns : s2.heap.Ns ce.locals m)
      exact ends D _ s2 m H1 I3 fin ns' (IB.fpOk (Nat.le_refl _) zC)
    · refine thnF (T.item (X.blk sB HB scope ce fp) rfl rfl rfl calm i [] s1 _ H1 (fun _ _ => False) I1 (iter_ok I1 z1) st1 on) fun _ s2 ⟨u, er, k2⟩ => ?_
      subst er
      refine thnF k2 fun _ s3 ⟨x, H3, I3, rx, y3, st3, z3⟩ => ?_
      refine thnF (tgt'.run _ s3 _ H3 x u _ (I3.pinned (iter_ok I3 z3) (T.obj _ _ st3)) rx (body x H3 y3)) fun _ s4 ⟨σ4, H4, I4, same, q4⟩ => ?_
      refine thnF (tst'.run _ s4 σ4 H4 _ I4 q4) fun b s5 ⟨H5, I5, q5⟩ => ?_
      have next : ∀ {s' : Shared} {H' : Hp}, Inv (X.blk sB HB scope ce fp) ([] ++ pinsAt fp s3.heap) σ4 H' s' → Nx H' → ∃ m, m < n ∧ ∃ i H', Inv (X.blk sB HB scope ce fp) [] (wipe σ (own.map (·.2))) H' s' ∧ tn i s'.heap ∧ (∀ b ∈ fp, H' b = none) ∧ P i m H' := fun {s' H'} I' nx => by
        obtain ⟨m', lt, p'⟩ := less H' nx
        have kept : ∀ b ∈ fp, ∀ o, s3.heap.get? b = some o → s'.heap.get? b = some o ∧ H' b = none := fun b m o e => by
          have := I'.pin (b, o) (List.mem_append_right _ (List.mem_append_right _ (mem_pinsAt m e)))
          exact ⟨this.1, this.2.1⟩
        refine ⟨m', lt, i + 1, H', (I'.unpinned (pins := [])).weak (by rw [← same, wipe_length]) (fun j v e => ?_), T.keep _ _ _ st3 fun b m o e => (kept b m o e).1, fun b m => ?_, p'⟩
        · rw [← same] at e; exact (wipe_some e).1
        · obtain ⟨o, e, _⟩ := T.obj _ _ st3 b m
          exact (kept b m o e).2
      cases b with
      | false => exact next I5 q5
      | true =>
        refine thnF (key'.run _ s5 σ4 H5 _ I5 q5) fun z s6 ⟨yk, H6, I6, rk, q6⟩ => ?_
        refine thnF (val'.run _ s6 σ4 H6 _ I6 q6) fun z2 s7 ⟨yv, H7, I7, rv, H8, put, nx⟩ => ?_
        exact dset_of (X := X.blk sB HB scope ce fp) room I7 put rk rv fun s8 I8 => next I8 nx
  have all := codeAny_compStart_dict main (T.self X.A 0 _ _ _ stC main)
  subst eC ece ecl eHB eB eD
  exact all
theorem pe_dcP (calm : X.calm = true) (room : X.A.units + 1 < cLine) (nd : X.N.Nodup) (over : PI X tg iter wi) (bo : BlkOk X.N X.env.scope scope own)
    (em : ∀ (H : Hp) (h : Heap), sysModules < h.objs.size → ObjOk X.prog X.w H (h.push { cls := .type "dict", data := .dict #[] }) h.objs.size o0)
    (tgt : ∀ (s : Shared) (H : Hp) (C : Addr) (cl : List (Str × Addr)) (fp : List Addr), PG (X.blk s H scope (compEnvC scope cl C X.env) fp) tg g)
    (tst : ∀ (s : Shared) (H : Hp) (C : Addr) (cl : List (Str × Addr)) (fp : List Addr), PTs (X.blk s H scope (compEnvC scope cl C X.env) fp) ifs tt)
    (key : ∀ (s : Shared) (H : Hp) (C : Addr) (cl : List (Str × Addr)) (fp : List Addr), PE (X.blk s H scope (compEnvC scope cl C X.env) fp) kx tk)
    (val : ∀ (s : Shared) (H : Hp) (C : Addr) (cl : List (Str × Addr)) (fp : List Addr), PE (X.blk s H scope (compEnvC scope cl C X.env) fp) vx tv)
    (fold : ∀ x, foldedSetIterable iter X.env x = pure x := by intro _; rfl) :
    PE X (.DictComp kx vx [⟨tg, iter, ifs, 0⟩] scope pos) (tDcP o0 wi g tt tk tv (own.map (·.2))) := by
  constructor
  intro pins s0 σ H0 Q I0 go
  rw [arm_eval_DictComp]
  refine dcP_core calm room nd over bo em tgt tst key val fold I0 go fun D C s' m H' I' q ns f => ⟨m, ns, fun h2 same => ?_⟩
  obtain ⟨a0, a1, a2, a3, a4, a5⟩ := f
  exact ⟨.ref D, H', I'.turned (t' := s'.toks) (fun b o nb e => (same.2 b nb).trans e) a0 a1 a3 a4 a5, rfl, q⟩
theorem ps_setDcP {i : Nat} {y : Str} {py spos : Pos} (calm : X.calm = true) (room : X.A.units + 1 < cLine) (nd : X.N.Nodup) (over : PI X tg iter wi) (bo : BlkOk X.N X.env.scope scope own)
    (em : ∀ (H : Hp) (h : Heap), sysModules < h.objs.size → ObjOk X.prog X.w H (h.push { cls := .type "dict", data := .dict #[] }) h.objs.size o0)
    (tgt : ∀ (s : Shared) (H : Hp) (C : Addr) (cl : List (Str × Addr)) (fp : List Addr), PG (X.blk s H scope (compEnvC scope cl C X.env) fp) tg g)
    (tst : ∀ (s : Shared) (H : Hp) (C : Addr) (cl : List (Str × Addr)) (fp : List Addr), PTs (X.blk s H scope (compEnvC scope cl C X.env) fp) ifs tt)
    (key : ∀ (s : Shared) (H : Hp) (C : Addr) (cl : List (Str × Addr)) (fp : List Addr), PE (X.blk s H scope (compEnvC scope cl C X.env) fp) kx tk)
    (val : ∀ (s : Shared) (H : Hp) (C : Addr) (cl : List (Str × Addr)) (fp : List Addr), PE (X.blk s H scope (compEnvC scope cl C X.env) fp) vx tv)
    (fold : ∀ x, foldedSetIterable iter X.env x = pure x)
    (hy : X.N[i]? = some y) (hl : X.env.scope.names.lookup y = some .local) (sw : swapsWith (.DictComp kx vx [⟨tg, iter, ifs, 0⟩] scope pos) (some (.Name y py)) spos.line X.env = pure true) :
    PS X (.Assign [.Name y py] (.DictComp kx vx [⟨tg, iter, ifs, 0⟩] scope pos) spos) (tAsg (tDcP o0 wi g tt tk tv (own.map (·.2))) (gName i)) := by
  constructor
  intro pins s0 σ H0 Dn I0 go
  rw [exec_Assign_Name_used _ _ _ _ sw]
  refine wpAny_bind (wpAny_standAt (wpAny_bind ?_))
  show wpAny _ X.A (do let _ ← comprehension (.DictComp kx vx [⟨tg, iter, ifs, 0⟩] scope pos) scope X.env (firstIterPos [⟨tg, iter, ifs, 0⟩] pos) newDict false (eval iter X.env) (some (assign (.Name y py) X.env))) _ _ s0
  have go' : tDcP o0 wi g tt tk tv (own.map (·.2)) σ H0 (fun x H1 => gName i x σ H1 Dn.nx) := go
  refine wpAny_bind (thn (dcP_core (Qf := fun _ s' => L2.SP X pins Dn .next s') calm room nd over bo em tgt tst key val fold I0 go' fun D C s' m H' I' q ns f => ?_) fun _ s' hq => wpAny_pure (wpAny_pure hq))
  show wpAny _ _ (assign (.Name y py) X.env (.ref D)) _ _ _
  refine wpAny_assign_Name (store_ok2 (v := V.ref D) I' nd hy (.inl hl) rfl (fun s2 I2 ⟨a, sb, ha⟩ => ?_) (.inr hl))
  obtain ⟨a0, a1, a2, a3, a4, a5⟩ := f
  have apart : C ≠ a := ha.elim (fun z => by rw [z]; exact a1) fun z e => a4 y a z e.symm
  exact ⟨m, ns.sameBut sb apart, fun h3 sb3 => ⟨_, H', I2.turned (t' := s2.toks) (fun b o nb e => (sb3.2 b nb).trans e) a0 a1 a3 a4 a5, q⟩⟩
theorem swd_true {kx vx : Expr} {gs : List Comprehension} {scope : Scope} {pos py : Pos} {y : Str} {l : Nat} {env : PySem.Env} (hk : env.scope.kind = .function) (hy : env.scope.names.lookup y = some .local) (hl : (py.line == pos.line) = true)
    (ha : (scope.names.any fun (n, k) => n == y && (k == .local || k == .cell)) = false) : swapsWith (.DictComp kx vx gs scope pos) (some (.Name y py)) l env = pure true := by
  have k1 : env.kindOf y = some .local := hy
  have k2 : env.blockKind = .function := by unfold PySem.Env.blockKind; rw [hk]; rfl
  unfold swapsWith
  simp only [k2, k1, ha, Expr.pos, hl]
  rfl
end
def kputG {κ : Type} [DecidableEq κ] (f : D → Option κ) (ks us : List D) (y v : D) : Option (List D × List D) := match f y with
  | some k => if ks.length < 1000 then some (match valG f ks us k with
    | some _ => (ks, putG f ks us k v)
    | none => (ks ++ [y], us ++ [v])) else none
  | none => none
def kput (tk : Bool) : List D → List D → D → D → Option (List D × List D) := if tk then kputG tkeyD else kputG keyD
def kcell (tk : Bool) (ks us : List D) : Cell := if tk then .dtt ks us else .dct ks us
open Classical in
noncomputable def dcGo (put : List D → List D → D → D → Option (List D × List D)) (chk : Hd → Prop) (g : MG) (t : MT) (ek ev : ME) (ρ : Env) : List D → List D → List D → Hd → Res (List D × List D)
  | [], ks, us, h => if chk h then .ok (ks, us) h else .bad
  | d :: ds, ks, us, h => if chk h then (noX (g d) ρ h).bind fun ρ1 h1 => (noX t ρ1 h1).bind fun k h2 => if k then (noX ek ρ1 h2).bind fun y h3 => (noX ev ρ1 h3).bind fun v h4 => match put ks us y v with
      | some p => dcGo put chk g t ek ev ρ ds p.1 p.2 h4
      | none => .bad
    else dcGo put chk g t ek ev ρ ds ks us h2 else .bad
noncomputable def mDc (tk : Bool) (vs : List Nat) (mi : MI) (g : MG) (t : MT) (ek ev : ME) : Env → Hd → Res O := fun ρ h => (mi ρ h).bind fun s h => (dcGo (kput tk) s.chk g t ek ev (wipeD ρ vs) s.items [] [] h).bind fun p h => .ok (.new (kcell tk p.1 p.2)) h
theorem dc_it {J : It} {n : Nat} {G : Hp → Prop} {Y : Nat → Hp → V → Hp → Prop} (w : Walk J n G Y) {o0 : HO} {g : TG} {tt : TT} {tk tv : TE} {vs : List Nat} {σ : L2.St} {H1 : Hp} {D : Addr} {Qd : Hp → Prop} (Pv : Nat → Hp → Prop) (h0 : Pv 0 (upd H1 D o0))
    (hG : ∀ i H, i ≤ n → Pv i H → G H)
    (hs : ∀ i x H H', i < n → Pv i H → Y i H x H' → g x (wipe σ vs) H' fun σ2 H2 => wipe σ2 vs = wipe σ vs ∧ tt σ2 H2 fun b H3 =>
      if b = true then tk σ2 H3 fun y H4 => tv σ2 H4 fun z H5 => ∃ H6, DPut H5 D y z H6 ∧ Pv (i + 1) H6 else Pv (i + 1) H3) (hd : ∀ H, Pv n H → Qd H) :
    ∃ P : Nat → Nat → Hp → Prop, (∃ m, P 0 m (upd H1 D o0)) ∧ ∀ i m H, P i m H →
      (J.stop i H ∧ Qd H) ∨ (J.go i H ∧ ∃ Nx : Hp → Prop, (∀ H', Nx H' → ∃ m', m' < m ∧ P (i + 1) m' H') ∧ ∀ x H', J.yld i H x H' → g x (wipe σ vs) H' fun σ2 H2 => wipe σ2 vs = wipe σ vs ∧ tt σ2 H2 fun b H3 =>
        if b = true then tk σ2 H3 fun y H4 => tv σ2 H4 fun z H5 => ∃ H6, DPut H5 D y z H6 ∧ Nx H6 else Nx H3) := by
  refine ⟨fun i m H => i ≤ n ∧ m + i = n ∧ Pv i H, ⟨n, Nat.zero_le n, rfl, h0⟩, fun i m H ⟨le, em, p⟩ => ?_⟩
  have gg := hG i H le p
  rcases Nat.lt_or_ge i n with lt | ge
  · exact .inr ⟨w.goes i H lt gg, Pv (i + 1), fun H' p' => ⟨n - (i + 1), by omega, lt, by omega, p'⟩, fun x H' yy => hs i x H H' lt p (w.yields i H x H' lt gg yy)⟩
  · obtain rfl : i = n := Nat.le_antisymm le ge
    exact .inl ⟨w.stops H gg, hd H p⟩
/-- what the two sorts of keys share -/
structure KSort (c : Ct) (κ : Type) [DecidableEq κ] (f : D → Option κ) (mk : List (κ × V) → HO) (cm : List D → List D → Cell) : Prop where
  put : ∀ {w : Wd} {h : Hd} {H : Hp} {a : Addr} {kvs : List (κ × V)} {y : D} {k : κ} {vy vv : V}, SR c w h H → VR c w y vy → f y = some k → H a = some (mk kvs) → kvs.length < sizeLine → DPut H a vy vv (upd H a (mk (putK kvs k vv)))
  pin : ∀ kvs, pinO (mk kvs)
  nf : ∀ kvs, isFz (mk kvs) = false
  cell : ∀ {w : Wd} {H : Hp} {a : Addr} {kvs : List (κ × V)} {ks us : List D}, H a = some (mk kvs) → ks.map f = kvs.map (fun p => some p.1) → VRs c w us (kvs.map (·.2)) → CellOk c w H a (cm ks us)
  live : ∀ ks us, ¬ deadC (cm ks us)
theorem ksort_k (c : Ct) : KSort c Key keyD .dK .dct where
  put := fun s ry e q l => by
    have := key_val ry e
    subst this
    exact .k q l
  pin := fun kvs => ⟨plain_dK kvs, fun _ z => by cases z⟩
  nf := fun _ => rfl
  cell := fun q k z => ⟨_, q, k, z⟩
  live := fun _ _ z => by cases z
theorem ksort_t (c : Ct) : KSort c (List Key) tkeyD .dT .dtt where
  put := fun s ry e q l => by
    obtain ⟨b, rfl, eb⟩ := tkey_val ry e
    exact .t q (s.F _ _ eb) l
  pin := fun kvs => ⟨plain_dT kvs, fun _ z => by cases z⟩
  nf := fun _ => rfl
  cell := fun q k z => ⟨_, q, k, z⟩
  live := fun _ _ z => by cases z
section
variable {c : Ct} {W : WX} {κ : Type} [DecidableEq κ] {f : D → Option κ} {mk : List (κ × V) → HO} {cm : List D → List D → Cell}
theorem kputG_ok {w : Wd} {ks us ks' us' : List D} {kvs : List (κ × V)} {y v : D} {vv : V} {k : κ} (ey : f y = some k) (rv : VR c w v vv) (kq : ks.map f = kvs.map (fun p => some p.1)) (z : VRs c w us (kvs.map (·.2))) (e : kputG f ks us y v = some (ks', us')) :
    kvs.length < sizeLine ∧ ks'.map f = (putK kvs k vv).map (fun p => some p.1) ∧ VRs c w us' ((putK kvs k vv).map (·.2)) := by
  unfold kputG at e
  rw [ey] at e
  simp only at e
  split at e
  · rename_i lt
    have el : kvs.length = ks.length := by have := congrArg List.length kq; simpa using this.symm
    have pt := put_two rv ey kq z
    refine ⟨by rw [el, sizeLine_eq]; omega, ?_⟩
    cases q : valG f ks us k with
    | some d => rw [q] at e; cases e; exact pt.1 d q
    | none => rw [q] at e; cases e; exact pt.2 q
  · cases e
theorem kputG_key {ks us : List D} {y v : D} {p : List D × List D} (e : kputG f ks us y v = some p) : ∃ k, f y = some k := by
  unfold kputG at e
  cases q : f y with
  | some k => exact ⟨k, rfl⟩
  | none => rw [q] at e; cases e
theorem dc_rd (S : KSort c κ f mk cm) {vs : List Nat} {mi : MI} {g : MG} {t : MT} {ek ev : ME} {ix : List Nat} (hix : ∀ i ∈ ix, i ∈ vs) {σ : L2.St} {H : Hp} {Q : VK}
    (q : tP (RO c) c W (fun ρ h => (mi ρ h).bind fun s h => (dcGo (kputG f) s.chk g t ek ev (wipeD ρ vs) s.items [] [] h).bind fun p h => .ok (.new (cm p.1 p.2)) h) σ H Q) :
    tDcP (mk []) (tI c W mi) (tG c W0 ix g) (tT c W0 t) (tE c W0 ek) (tE c W0 ev) vs σ H Q := by
  refine (tP.bind q).mono fun J H1 ⟨w1, ρ, h1, s, e1, s1, k1, p1⟩ D none_D => ?_
  obtain ⟨G, Y, wk, hG, hY⟩ := id k1
  have fr := FreshAt.of s1 none_D
  have s2 : SR c (w1.pinAt D (mk [])) h1 (upd H1 D (mk [])) := (s1.laid none_D _).pinned fr upd_same (S.pin [])
  refine dc_it wk (fun i H' => ∃ w h kvs ks us, Le0 w1 w ∧ w.P = upd w1.P D (mk kvs) ∧ SR c w h H' ∧ ks.map f = kvs.map (fun p => some p.1) ∧ VRs c w us (kvs.map (·.2)) ∧
      Post (RO c) c w1 W σ ((dcGo (kputG f) s.chk g t ek ev (wipeD ρ vs) (s.items.drop i) ks us h).bind fun p h => .ok (.new (cm p.1 p.2)) h) Q)
    ⟨w1.pinAt D (mk []), h1, [], [], [], ⟨fun _ _ q => q, fun _ _ q => q⟩, rfl, s2, rfl, .nil, p1⟩ ?_ ?_ ?_
  · rintro i H' le ⟨w, h, kvs, ks, us, l, eP, sr, kq, r, p⟩
    refine hG w h H' (le1_of l eP fr.P) sr (Classical.byContradiction fun ck => ?_)
    cases q : s.items.drop i with
    | nil => rw [q] at p; simp only [dcGo, if_neg ck] at p; exact p
    | cons d ds => rw [q] at p; simp only [dcGo, if_neg ck] at p; exact p
  · rintro i x H' H'' lt ⟨w, h, kvs, ks, us, l, eP, sr, kq, r, p⟩ yy
    rw [List.drop_eq_getElem_cons lt] at p
    simp only [dcGo] at p
    by_cases ck : s.chk h
    · rw [if_pos ck] at p
      obtain ⟨w3, d, l3, sr3, ed, r3⟩ := hY i x H' H'' w h lt (le1_of l eP fr.P) sr ck yy
      rw [List.getElem?_eq_getElem lt] at ed
      cases ed
      refine ⟨w3, wipeD ρ vs, h, s.items[i], ((e1.le0 l).le l3).wipe vs, sr3, r3, ?_⟩
      cases q1 : g s.items[i] (wipeD ρ vs) h with
      | bad => simp only [noX, q1, Res.bind] at p; exact p.elim
      | exc x h1 => simp only [noX, q1, Res.bind] at p; exact p.elim
      | ok ρ1 h1 =>
        simp only [noX, q1, Res.bind] at p
        refine fun σ2 w4 H2 l4 e4 sr4 x4 => ⟨(x4.mono hix).wipe.trans (Eqx.wipe (σ := σ) (σ1 := wipe σ vs) ⟨wipe_length _ _, fun i h => wipe_out h⟩), w4, ρ1, h1, e4, sr4, ?_⟩
        cases q2 : t ρ1 h1 with
        | bad => simp only [q2] at p; exact p.elim
        | exc x h1 => simp only [q2] at p; exact p.elim
        | ok b h2 =>
          simp only [q2] at p
          intro b' w5 H3 l5 eb sr5
          cases eb
          have eP5 : w5.P = upd w1.P D (mk kvs) := l5.P.trans (l4.P.trans (l3.P.trans eP))
          have l05 : Le0 w w5 := l3.toLe0.trans (l4.toLe0.trans l5.toLe0)
          cases b with
          | false => exact ⟨w5, h2, kvs, ks, us, l.trans l05, eP5, sr5, kq, r.le0 l05, by simp only [Bool.false_eq_true, if_false] at p; exact p⟩
          | true =>
            simp only [if_true] at p
            refine ⟨w5, ρ1, h2, e4.le l5, sr5, ?_⟩
            cases q3 : ek ρ1 h2 with
            | bad => simp only [q3] at p; exact p.elim
            | exc x h1 => simp only [q3] at p; exact p.elim
            | ok y h3 =>
              simp only [q3] at p
              intro vy w6 H4 l6 ry sr6
              refine ⟨w6, ρ1, h3, (e4.le l5).le l6, sr6, ?_⟩
              cases q4 : ev ρ1 h3 with
              | bad => simp only [q4] at p; exact p.elim
              | exc x h1 => simp only [q4] at p; exact p.elim
              | ok v h4 =>
                simp only [q4] at p
                intro vv w7 H5 l7 rv sr7
                cases q5 : kputG f ks us y v with
                | none => simp only [q5] at p; exact p.elim
                | some pr =>
                  simp only [q5] at p
                  obtain ⟨k, ey⟩ := kputG_key q5
                  have eP7 : w7.P = upd w1.P D (mk kvs) := l7.P.trans (l6.P.trans eP5)
                  have l07 : Le0 w w7 := l05.trans (l6.toLe0.trans l7.toLe0)
                  have at7 : w7.P D = some (mk kvs) := by rw [eP7, upd_same]
                  obtain ⟨z1, z2, z3⟩ := kputG_ok ey rv kq (r.le0 l07) q5
                  refine ⟨_, S.put sr7 (ry.le l7) ey (sr7.P D _ at7) z1, ⟨w7.F, upd w7.P D (mk (putK kvs k vv)), w7.φ⟩, h4, putK kvs k vv, pr.1, pr.2, ⟨fun a o q => l07.F a o (l.F a o q), fun a o q => l07.φ a o (l.φ a o q)⟩, ?_, sr7.repin at7 (S.pin _) (S.nf _), z2, VRs.le0 (Le0.P w7 _) z3, p⟩
                  show upd w7.P D _ = upd w1.P D _
                  rw [eP7, upd_upd]
    · rw [if_neg ck] at p; exact p.elim
  · rintro H' ⟨w, h, kvs, ks, us, l, eP, sr, kq, r, p⟩
    rw [List.drop_length] at p
    simp only [dcGo] at p
    split at p
    · obtain ⟨sr', f', eD⟩ := sr.unpin eP fr.P (S.nf _)
      exact p (.ref D) { w with P := w1.P } H' ⟨⟨l.F, l.φ⟩, rfl⟩ ⟨S.live _ _, D, rfl, f', S.cell eD kq (r.le0 (Le0.P w _))⟩ sr'
    · exact p.elim
end
section
variable {X : Cx} {W : WX} {pos : Pos} {kx vx tg iter : Expr} {ifs : List Expr} {scope : Scope} {own : List (Str × Nat)} {mi : MI} {g : MG} {t : MT} {ek ev : ME} {ix vs : List Nat} {k : Nat}
/-- {key: value for target in iter if test}: tk, are the keys tuples -/
theorem e_dc (tk : Bool) (hr : Room k X.A) (hc : X.calm = true) (hN : X.N.Nodup) (hi : SI X W tg iter mi) (ok : BlkOk X.N X.env.scope scope own)
    (hg : ∀ (s : Shared) (H : Hp) (C : Addr) (cl : List (Str × Addr)) (fp : List Addr), SG (X.blk s H scope (compEnvC scope cl C X.env) fp) W0 ix tg g) (ht : ∀ (s : Shared) (H : Hp) (C : Addr) (cl : List (Str × Addr)) (fp : List Addr), STs (X.blk s H scope (compEnvC scope cl C X.env) fp) W0 ifs t)
    (hk : ∀ (s : Shared) (H : Hp) (C : Addr) (cl : List (Str × Addr)) (fp : List Addr), SE (X.blk s H scope (compEnvC scope cl C X.env) fp) W0 kx ek) (he : ∀ (s : Shared) (H : Hp) (C : Addr) (cl : List (Str × Addr)) (fp : List Addr), SE (X.blk s H scope (compEnvC scope cl C X.env) fp) W0 vx ev)
    (hix : ∀ i ∈ ix, i ∈ own.map (·.2) := by decide) (hs : ∀ x, foldedSetIterable iter X.env x = pure x := by intro _; rfl) (hv : own.map (·.2) = vs := by rfl) :
    SO X W (.DictComp kx vx [⟨tg, iter, ifs, 0⟩] scope pos) (mDc tk vs mi g t ek ev) := by
  subst hv
  cases tk with
  | false => exact PE.imp (pe_dcP (o0 := .dK []) (g := tG (Cx.ct X) W0 ix g) (tt := tT (Cx.ct X) W0 t) (tk := tE (Cx.ct X) W0 ek) (tv := tE (Cx.ct X) W0 ev) hc (hu1 hr) hN hi ok (fun _ h hb => dk_empty h hb) hg ht hk he hs) fun σ H Q q => dc_rd (ksort_k _) hix q
  | true => exact PE.imp (pe_dcP (o0 := .dT []) (g := tG (Cx.ct X) W0 ix g) (tt := tT (Cx.ct X) W0 t) (tk := tE (Cx.ct X) W0 ek) (tv := tE (Cx.ct X) W0 ev) hc (hu1 hr) hN hi ok (fun _ h hb => dt_empty h hb) hg ht hk he hs) fun σ H Q q => dc_rd (ksort_t _) hix q
end
section
variable {X : Cx} {W : WX} {pos py spos : Pos} {kx vx tg iter : Expr} {ifs : List Expr} {scope : Scope} {own : List (Str × Nat)} {mi : MI} {g : MG} {t : MT} {ek ev : ME} {ix vs : List Nat} {k : Nat} {y : Str}
/-- y = {key: value for ..}, y a local, the dict an own one -/
theorem s_dcOwn (tk : Bool) (i : Nat) (hr : Room k X.A) (hc : X.calm = true) (hN : X.N.Nodup) (hi : SI X W tg iter mi) (ok : BlkOk X.N X.env.scope scope own)
    (hg : ∀ (s : Shared) (H : Hp) (C : Addr) (cl : List (Str × Addr)) (fp : List Addr), SG (X.blk s H scope (compEnvC scope cl C X.env) fp) W0 ix tg g) (ht : ∀ (s : Shared) (H : Hp) (C : Addr) (cl : List (Str × Addr)) (fp : List Addr), STs (X.blk s H scope (compEnvC scope cl C X.env) fp) W0 ifs t)
    (hk : ∀ (s : Shared) (H : Hp) (C : Addr) (cl : List (Str × Addr)) (fp : List Addr), SE (X.blk s H scope (compEnvC scope cl C X.env) fp) W0 kx ek) (he : ∀ (s : Shared) (H : Hp) (C : Addr) (cl : List (Str × Addr)) (fp : List Addr), SE (X.blk s H scope (compEnvC scope cl C X.env) fp) W0 vx ev)
    (hy : X.N[i]? = some y := by rfl) (hyl : X.env.scope.names.lookup y = some .local := by rfl)
    (hsw : swapsWith (.DictComp kx vx [⟨tg, iter, ifs, 0⟩] scope pos) (some (.Name y py)) spos.line X.env = pure true := by exact swd_true rfl rfl rfl (by decide +kernel)) (hix : ∀ i ∈ ix, i ∈ own.map (·.2) := by decide) (hs : ∀ x, foldedSetIterable iter X.env x = pure x := by intro _; rfl) (hv : own.map (·.2) = vs := by rfl) :
    SS X W (.Assign [.Name y py] (.DictComp kx vx [⟨tg, iter, ifs, 0⟩] scope pos) spos) (mSet i (mOwn (mDc tk vs mi g t ek ev))) := by
  subst hv
  cases tk with
  | false => exact PS.imp (ps_setDcP (o0 := .dK []) (g := tG (Cx.ct X) W0 ix g) (tt := tT (Cx.ct X) W0 t) (tk := tE (Cx.ct X) W0 ek) (tv := tE (Cx.ct X) W0 ev) hc (hu1 hr) hN hi ok (fun _ h hb => dk_empty h hb) hg ht hk he hs hy hyl hsw) fun Dn σ H q => dc_rd (ksort_k _) hix (own_rd (set_rd q))
  | true => exact PS.imp (ps_setDcP (o0 := .dT []) (g := tG (Cx.ct X) W0 ix g) (tt := tT (Cx.ct X) W0 t) (tk := tE (Cx.ct X) W0 ek) (tv := tE (Cx.ct X) W0 ev) hc (hu1 hr) hN hi ok (fun _ h hb => dt_empty h hb) hg ht hk he hs hy hyl hsw) fun Dn σ H q => dc_rd (ksort_t _) hix (own_rd (set_rd q))
end
end DD
namespace DD
open PySem PySem.Spec L2 RZ PySem.W
mutual
/-- plain data, no dict in it -/
def isSq : D → Bool
  | .non => true
  | .bl _ => true
  | .int _ => true
  | .str _ => true
  | .tup xs => isSqs xs
  | .ktp xs => isSqs xs
  | _ => false
def isSqs : List D → Bool
  | [] => true
  | d :: ds => isSq d && isSqs ds
end
section
variable {X : Cx} {pins : List (Addr × Obj)} {σ : L2.St} {H : Hp} {s : Shared} {w : Wd} {h : Hd}
mutual
theorem sq_of (I : Inv X pins σ H s) (sr : ∀ a o, w.F a = some o → H a = some o) : ∀ (d : D) {v : V} {u : Value}, VR (Cx.ct X) w d v → RelV v u → isSq d = true → ∃ as, Reads s.heap u (pyX d) as
  | .non, v, u, r, ru, _ => by simp only [VR] at r; subst r; cases ru; exact ⟨_, by simp only [pyX]; exact .none⟩
  | .bl b, v, u, r, ru, _ => by simp only [VR] at r; subst r; cases ru; exact ⟨_, by simp only [pyX]; exact .bool b⟩
  | .int i, v, u, r, ru, _ => by simp only [VR] at r; subst r; obtain ⟨t, rfl⟩ := ru; exact ⟨_, by simp only [pyX]; exact .int i t⟩
  | .str x, v, u, r, ru, _ => by simp only [VR] at r; subst r; obtain ⟨t, rfl⟩ := ru; exact ⟨_, by simp only [pyX]; exact .str x t⟩
  | .tup xs, v, u, r, ru, ip => by
    simp only [VR] at r
    obtain ⟨a, vs, rfl, q, z⟩ := r
    obtain rfl : u = Value.ref a := ru
    obtain ⟨its, rv, ⟨o, ho, hc, n, hd⟩, _⟩ := I.tuple (SqT_le sr q)
    simp only [pyX, isSq] at ip ⊢
    obtain ⟨as, k⟩ := sqs_of I sr xs z rv ip
    exact ⟨as, .tuple ho hc hd (by simpa using k)⟩
  | .ktp xs, v, u, r, ru, ip => by
    simp only [VR] at r
    obtain ⟨a, vs, rfl, q, z⟩ := r
    obtain rfl : u = Value.ref a := ru
    obtain ⟨its, rv, ⟨o, ho, hc, n, hd⟩, _⟩ := I.tuple q.sq
    simp only [pyX, isSq] at ip ⊢
    obtain ⟨as, k⟩ := sqs_of I sr xs z rv ip
    exact ⟨as, .tuple ho hc hd (by simpa using k)⟩
  | .lst _, _, _, _, _, ip => by simp [isSq] at ip
  | .dct _ _, _, _, _, _, ip => by simp [isSq] at ip
  | .rol _, _, _, _, _, ip => by simp [isSq] at ip
  | .ref _, _, _, _, _, ip => by simp [isSq] at ip
  | .glb _, _, _, _, _, ip => by simp [isSq] at ip
  | .ty _, _, _, _, _, ip => by simp [isSq] at ip
  | .dtt _ _, _, _, _, _, ip => by simp [isSq] at ip
  | .ins _ _ _, _, _, _, _, ip => by simp [isSq] at ip
theorem sqs_of (I : Inv X pins σ H s) (sr : ∀ a o, w.F a = some o → H a = some o) : ∀ (ds : List D) {vs : List V} {us : List Value}, VRs (Cx.ct X) w ds vs → Vals vs us → isSqs ds = true → ∃ as, ReadsAll s.heap us (pyXs ds) as
  | [], vs, us, r, ru, _ => by
    simp only [VRs] at r; subst r; cases ru; exact ⟨_, by simp only [pyXs]; exact .nil⟩
  | d :: ds, vs, us, r, ru, ip => by
    simp only [VRs] at r
    obtain ⟨v, vs', rfl, r1, r2⟩ := r
    cases ru with
    | cons u1 u2 =>
      simp only [isSqs, Bool.and_eq_true] at ip
      obtain ⟨a1, k1⟩ := sq_of I sr d r1 u1 ip.1
      obtain ⟨a2, k2⟩ := sqs_of I sr ds r2 u2 ip.2
      exact ⟨_, by simp only [pyXs]; exact .cons k1 k2⟩
end
end
def leD (a b : D) : Bool := dataLe false pyX a b
def srtD (ds : List D) : List D := ds.mergeSort leD
def srtV (vs : List V) (ps : List PyData) : List V := ((vs.zip ps).mergeSort (dataLe false Prod.snd)).map (·.1)
structure SrtOk (ps : List PyData) : Prop where
  n : ps.length ≤ 100000
  al : AllAlike ps
  so : Sortable ps
  d : ∀ p ∈ ps, p.depth ≤ 20
/-- sorted(xs) of alike data -/
def rSrtA (X : Cx) : List V → Hp → VK → Prop := fun xs H Q => ∃ (a : Addr) (vs : List V) (ps : List PyData), xs = [.ref a] ∧ SqL X.K H a vs ∧ vs.length = ps.length ∧ SrtOk ps ∧
  (∀ (pins : List (Addr × Obj)) (σ : L2.St) (s : Shared) (us : List Value), Inv X pins σ H s → Vals vs us → EachIs (fun u p => ∃ as, Reads s.heap u p as) us ps) ∧ ∀ p, H p = none → Q (.ref p) (upd H p (.lst (srtV vs ps)))
theorem each_zip3 {R : Value → PyData → Prop} : ∀ {us : List Value} {vs : List V} {ps : List PyData}, Vals vs us → EachIs R us ps → EachIs (fun u (b : V × PyData) => RelV b.1 u) us (vs.zip ps) ∧ EachIs (fun u (b : V × PyData) => R u b.2) us (vs.zip ps)
  | _, _, _, .nil, .nil => ⟨.nil, .nil⟩
  | _, _, _, .cons r rs, .cons q qs => let ⟨a, b⟩ := each_zip3 rs qs; ⟨.cons r a, .cons q b⟩
theorem each_vals : ∀ {us : List Value} {bs : List (V × PyData)}, EachIs (fun u (b : V × PyData) => RelV b.1 u) us bs → Vals (bs.map (·.1)) us
  | _, _, .nil => .nil
  | _, _, .cons r rs => .cons r (each_vals rs)
theorem cr_srtA {X : Cx} {k : Nat} (hr : Room k X.A) : CallR X (.builtin "sorted") (rSrtA X) := by
  intro pins s σ H vs us Q I r h
  obtain ⟨a, xs, ps, rfl, hs, hl, ok, rd, q⟩ := h
  obtain ⟨its, rv, hp, _⟩ := I.list hs
  rw [Vals.ref1 r]
  obtain ⟨e1, e2⟩ := each_zip3 rv (rd pins σ s its I rv)
  have em : (xs.zip ps).map Prod.snd = ps := by rw [List.map_snd_zip]; omega
  refine sorted_data (enc := Prod.snd) hp.isList e1 e2 (by rw [em]; exact ok.al) (by rw [em]; exact ok.so) (by rw [List.length_zip, sizeLine_eq]; have := ok.n; omega) (fun b hb => ?_) fun out hlo he => ?_
  · have hm : b.2 ∈ ps := by rw [← em]; exact List.mem_map_of_mem hb
    have := ok.d _ hm
    have := hu66 hr
    omega
  obtain ⟨ep, he'⟩ := PyProof.Rows.sortedAll_at s.heap its out.toArray
  have ev := each_vals he
  have hlen : (srtV xs ps).length ≤ sizeLine := by
    unfold srtV
    rw [List.length_map, List.length_mergeSort, List.length_zip, sizeLine_eq]; have := ok.n; omega
  exact ⟨.ref _, upd H (s.heap.objs.size + 1) (.lst (srtV xs ps)), I.laid (t' := s.toks) (fun _ _ => PyProof.Rows.sortedAll_old) (Nat.le_succ _) ⟨hlen, out, ep, ev, he'⟩, rfl, q _ (I.hok.fresh (Nat.le_succ _))⟩
section
variable {c : Ct} {w : Wd}
theorem vrs_each : ∀ {ds : List D} {vs : List V}, VRs c w ds vs → EachIs (fun d (b : V × PyData) => VR c w d b.1 ∧ b.2 = pyX d) ds (vs.zip (pyXs ds))
  | [], vs, r => by simp only [VRs] at r; subst r; exact .nil
  | d :: ds, vs, r => by
    simp only [VRs] at r
    obtain ⟨v, vs', rfl, r1, r2⟩ := r
    simp only [pyXs, List.zip_cons_cons]
    exact .cons ⟨r1, rfl⟩ (vrs_each r2)
theorem each_vrs {ds : List D} {bs : List (V × PyData)} (e : EachIs (fun d (b : V × PyData) => VR c w d b.1 ∧ b.2 = pyX d) ds bs) : VRs c w ds (bs.map (·.1)) := by
  induction e with
  | nil => exact .nil
  | cons a _ ih => exact .cons a.1 ih
theorem srt_vrs {ds : List D} {vs : List V} (r : VRs c w ds vs) : VRs c w (srtD ds) (srtV vs (pyXs ds)) := by
  have e := vrs_each r
  refine each_vrs (sort_each e fun p hp q hq => ?_)
  have h1 := (e.zip p hp).2
  have h2 := (e.zip q hq).2
  unfold leD dataLe sortLe
  simp only [h1, h2]
end
open Classical in
noncomputable def srtAF : List D → Hd → Res O
  | [x], h => match listOf h x with
    | some ds => if isSqs ds = true ∧ SrtOk (pyXs ds) then .ok (.new (.lst (srtD ds))) h else .bad
    | none => .bad
  | _, _ => .bad
theorem pyXs_len : ∀ ds : List D, (pyXs ds).length = ds.length
  | [] => by simp
  | d :: ds => by simp [pyXs_len ds]
theorem reads_each {h : Heap} : ∀ {us : List Value} {ps : List PyData} {as : List Addr}, ReadsAll h us ps as → EachIs (fun u p => ∃ as, Reads h u p as) us ps
  | _, _, _, .nil => .nil
  | _, _, _, .cons r rs => .cons ⟨_, r⟩ (reads_each rs)
theorem s_srtA {X : Cx} : CallS (Cx.ct X) (rSrtA X) srtAF := fun {w W σ h H vs ds Q} s r p => by
  unfold srtAF at p
  split at p
  · rename_i x
    obtain ⟨v, rfl, rv⟩ := r.one_inv
    split at p
    · rename_i ys ey
      split at p
      · rename_i ok
        obtain ⟨a, zs, rfl, q, z⟩ := listOf_ok s rv ey
        refine ⟨a, zs, pyXs ys, rfl, q, by rw [pyXs_len]; exact z.len.symm, ok.2, fun pins σ sh us I ru => ?_, fun b nb => ?_⟩
        · obtain ⟨as, k⟩ := sqs_of I s.F ys z ru ok.1
          exact reads_each k
        · exact p _ w _ (.refl _) ⟨(by rintro ⟨⟩), b, rfl, FreshAt.of s nb, _, upd_same, srt_vrs z⟩ (s.laid nb _)
      · exact p.elim
    · exact p.elim
  · exact p.elim
def srtSF : List D → Hd → Res O
  | [x], h => match dctOf h x with
    | some (ks, _) => match keysS ks with
      | some xs => if xs.length < 64 ∧ xs.Nodup then .ok (.new (.lst ((sd ltS xs).map .str))) h else .bad
      | none => .bad
    | none => .bad
  | _, _ => .bad
def rSrtS : List V → Hp → VK → Prop := fun xs H Q => ∃ (a : Addr) (kvs : List (Key × V)) (ks : List Str), xs = [.ref a] ∧ Rd H a (.dK kvs) ∧ kvs.map (·.1) = ks.map Sum.inr ∧ ks.length < 64 ∧
  ∀ ys p, ys.Perm ks → PyProof.Rows.sortedS ys = true → H p = none → Q (.ref p) (upd H p (.lst (ys.map V.str)))
theorem keysS_keyD : ∀ {ds : List D} {ns : List Str}, keysS ds = some ns → ds.map keyD = ns.map fun n => some (Sum.inr n)
  | [], ns, e => by simp only [keysS, Option.some.injEq] at e; subst e; rfl
  | d :: ds, ns, e => by
    cases d with
    | str i =>
      simp only [keysS, Option.map_eq_some_iff] at e
      obtain ⟨ns', e1, rfl⟩ := e
      simp only [List.map_cons, keyD, keysS_keyD e1]
    | _ => cases e
theorem vrs_strs {c : Ct} {w : Wd} : ∀ xs : List Str, VRs c w (xs.map .str) (xs.map V.str)
  | [] => .nil
  | x :: xs => .cons (by simp only [VR]) (vrs_strs xs)
theorem s_srtS {c : Ct} : CallS c rSrtS srtSF := fun {w W σ h H vs ds Q} s r p => by
  unfold srtSF at p
  split at p
  · rename_i x
    split at p
    · rename_i ks us ed
      split at p
      · rename_i ns en
        split at p
        · rename_i hn
          obtain ⟨v, rfl, rv⟩ := r.one_inv
          obtain ⟨a, kvs, rfl, q, kq, z⟩ := dctOf_ok s rv ed
          have e1 : kvs.map (·.1) = ns.map Sum.inr := map_some_inj (by rw [List.map_map, List.map_map]; exact kq.symm.trans (keysS_keyD en))
          refine ⟨a, kvs, ns, rfl, q, e1, hn.1, fun ms b pm up nb => ?_⟩
          have nd : ms.Nodup := pm.nodup_iff.mpr hn.2
          obtain rfl : ms = sd ltS ns := rise_ext ordS (sortedS_rise up nd) (sd_rise ordS ns) fun a => by rw [pm.mem_iff, sd_mem ordS]
          exact p _ w _ (.refl _) ⟨(by rintro ⟨⟩), b, rfl, FreshAt.of s nb, _, upd_same, vrs_strs _⟩ (s.laid nb _)
        · exact p.elim
      · exact p.elim
    · exact p.elim
  · exact p.elim
/-- one way, else the other -/
def elseF (f g : List D → Hd → Res O) : List D → Hd → Res O := fun ds h => match f ds h with
  | .bad => g ds h
  | r => r
theorem CallS.els {c : Ct} {r1 r2 : List V → Hp → VK → Prop} {f g : List D → Hd → Res O} (a : CallS c r1 f) (b : CallS c r2 g) : CallS c (fun xs H Q => r1 xs H Q ∨ r2 xs H Q) (elseF f g) := fun {w W σ h H vs ds Q} s r p => by
  unfold elseF at p
  cases e : f ds h with
  | bad => rw [e] at p; exact .inr (b s r p)
  | ok o h1 => rw [e] at p; exact .inl (a (W := W) (σ := σ) s r (by rw [e]; exact p))
  | exc x h1 => rw [e] at p; exact .inl (a (W := W) (σ := σ) s r (by rw [e]; exact p))
noncomputable def srtGF : List D → Hd → Res O := elseF srtDF (elseF srtAF srtSF)
theorem cr_srtG {X : Cx} {k : Nat} (hr : Room k X.A) (hc : X.calm = true) : CallR X (.builtin "sorted") (fun xs H Q => (rSorted X.K xs H Q ∨ rSrtD xs H Q) ∨ (rSrtA X xs H Q ∨ rSrtS xs H Q)) := (cr_srtD hc).or ((cr_srtA hr).or (call_sortedD hc))
theorem s_srtG {X : Cx} : CallS (Cx.ct X) (fun xs H Q => (rSorted X.K xs H Q ∨ rSrtD xs H Q) ∨ (rSrtA X xs H Q ∨ rSrtS xs H Q)) srtGF := s_srtD.els (s_srtA.els s_srtS)
end DD
namespace L2
open PySem PySem.Spec
/-- d.update(other), both with tuples as keys -/
def rUpdT : V → List V → Hp → VK → Prop := fun x xs H Q => ∃ (a b : Addr) (kvs more : List (List Key × V)), x = .ref a ∧ xs = [.ref b] ∧ a ≠ b ∧ H a = some (.dT kvs) ∧ Rd H b (.dT more) ∧ kvs.length + more.length ≤ sizeLine ∧
  (kvs ≠ [] ∨ ∃ ns : List (List Int), more.map (·.1) = ns.map (fun n => n.map Sum.inl) ∧ (ns.map fun n => reduceHash (Builtin.Tuple.tupleHashOf (n.map hashInt))).Nodup) ∧ Q .non (upd H a (.dT (more.foldl (fun acc p => putK acc p.1 p.2) kvs)))
theorem KT.all {H : Hp} : ∀ {more kvs : List (List Key × V)} {ys xs : List (List Key × Addr × Value)}, KT H kvs xs → KT H more ys → KT H (more.foldl (fun acc p => putK acc p.1 p.2) kvs) (storedAllH xs ys)
  | [], kvs, _, xs, a, .nil => a
  | p :: more, kvs, q :: ys, xs, a, .cons r rs => by
    show KT H (more.foldl _ (putK kvs p.1 p.2)) (storedAllH (storedH xs q.1 q.2.1 q.2.2) ys)
    refine KT.all ?_ rs
    rw [← r.1]
    exact a.put p.1 r.2.1 r.2.2
theorem KT.fst {H : Hp} {kvs : List (List Key × V)} {xs : List (List Key × Addr × Value)} (r : KT H kvs xs) : kvs.map (·.1) = xs.map (·.1) := by
  induction r with
  | nil => rfl
  | cons a _ ih => simp only [List.map_cons, a.1, ih]
theorem KT.tups {H : Hp} {kvs : List (List Key × V)} {xs : List (List Key × Addr × Value)} (r : KT H kvs xs) : ∀ x ∈ xs, ∃ ks, H x.2.1 = some (.tup ks) := by
  induction r with
  | nil => intro x hx; cases hx
  | cons a _ ih =>
    intro x hx
    rcases List.mem_cons.mp hx with rfl | hx
    · exact ⟨_, a.2.1⟩
    · exact ih x hx
theorem mtd_updateT {X : Cx} (room : X.A.units + 1 < cLine) : MtR X "dict.update" rUpdT := by
  intro pins s σ H x xs v us Q I rx rxs h
  obtain ⟨a, b, kvs, more, rfl, rfl, hab, ha, hb, hz, hh, q⟩ := h
  obtain ⟨u, rfl, ru⟩ := rxs.one
  obtain rfl : v = Value.ref a := rx
  obtain rfl : u = Value.ref b := ru
  obtain ⟨z1, hd1, vs, r1, dd1⟩ := dt_of I.hok ha
  obtain ⟨z2, hd2, ws, r2, dd2⟩ := dt_rd I.hok hb
  have l1 : kvs.length = vs.length := Paired.length r1
  have l2 : more.length = ws.length := Paired.length r2
  have lz : ∀ (m k : List (List Key × V)), (m.foldl (fun acc p => putK acc p.1 p.2) k).length ≤ k.length + m.length := by
    intro m
    induction m with
    | nil => intro k; simp
    | cons p m ih => intro k; have := ih (putK k p.1 p.2); have := length_putK k p.1 p.2; simp only [List.foldl_cons, List.length_cons]; omega
  refine call_update_dictH (knd := tupleKind (mixKind X.prog X.w)) (tupleKind_room_in1 room) hab hd2 dd1 dd2 ?_ (by omega) fun h' d1 d2 hs => ?_
  · rcases hh with hh | ⟨ns, en, nd⟩
    · refine .inl fun z => hh ?_
      subst z
      cases r1; rfl
    · refine .inr ⟨fun x hx => ?_, ?_⟩
      · obtain ⟨ks, e⟩ := r2.tups x hx
        obtain ⟨_, _, _, o, h1, h2, _⟩ := (show ObjOk X.prog X.w H s.heap x.2.1 (.tup ks) from I.hok _ _ e)
        exact ⟨o, h1, h2⟩
      · have e1 : ws.map (fun x => (tupleKind (mixKind X.prog X.w)).hash x.1) = ns.map fun n => reduceHash (Builtin.Tuple.tupleHashOf (n.map hashInt)) := by
          have : ws.map (·.1) = ns.map (fun n => n.map Sum.inl) := by rw [← r2.fst, en]
          calc ws.map (fun x => (tupleKind (mixKind X.prog X.w)).hash x.1) = (ws.map (·.1)).map (tupleKind (mixKind X.prog X.w)).hash := by rw [List.map_map]; rfl
            _ = _ := by
              rw [this, List.map_map]
              refine List.map_congr_left fun n _ => ?_
              show reduceHash (Builtin.Tuple.tupleHashOf ((n.map Sum.inl).map (keyH X.w))) = _
              rw [List.map_map]; rfl
        rw [e1]; exact nd
  obtain ⟨q1, es, ep, g1, g2, g3, g4, _, g5⟩ := d1
  have kt : KT (upd H a (.dT (more.foldl (fun acc p => putK acc p.1 p.2) kvs))) (more.foldl (fun acc p => putK acc p.1 p.2) kvs) (storedAllH vs ws) := (KT.all r1 r2).keeps fun c ys ec => by
    rw [upd_ne (ne_of ec ha (fun z => nomatch z))]; exact ec
  exact ⟨.non, upd H a (.dT (more.foldl (fun acc p => putK acc p.1 p.2) kvs)), d_write I (by rw [ha]; exact True.intro) hs ⟨q1, g1⟩ ⟨Nat.le_trans (lz more kvs) hz, hd1, _, kt, q1, es, ep, g1, g2, g3, g4, g5⟩, rfl, q⟩
end L2
namespace DD
open PySem PySem.Spec L2 RZ
def intsD : D → Option (List Int)
  | .tup xs => keysI xs
  | _ => none
def intsDs : List D → Option (List (List Int))
  | [] => some []
  | d :: ds => match intsD d, intsDs ds with
    | some n, some ns => some (n :: ns)
    | _, _ => none
/-- no two of these tuples of ints have one hash -/
def Hnd (ns : List (List Int)) : Prop := (ns.map fun n => reduceHash (Builtin.Tuple.tupleHashOf (n.map hashInt))).Nodup
def mergeT (ks us : List D) : List D → List D → Option (List D × List D)
  | [], [] => some (ks, us)
  | k :: ks2, u :: us2 => match kputG tkeyD ks us k u with
    | some p => mergeT p.1 p.2 ks2 us2
    | none => none
  | _, _ => none
open Classical in
noncomputable def updTF : D → List D → Hd → Res O
  | .ref r, [.dtt ks2 us2], h => match h[r]? with
    | some (.dtt ks us) => if ks.length + ks2.length ≤ 1000 ∧ (ks ≠ [] ∨ ∃ ns, intsDs ks2 = some ns ∧ Hnd ns) then (match mergeT ks us ks2 us2 with
      | some p => .ok (.val .non) (h.set r (.dtt p.1 p.2))
      | none => .bad) else .bad
    | _ => .bad
  | _, _, _ => .bad
theorem keysI_tkey : ∀ {xs : List D} {ns : List Int}, keysI xs = some ns → keysD xs = some (ns.map Sum.inl)
  | [], ns, e => by simp only [keysI, Option.some.injEq] at e; subst e; rfl
  | d :: ds, ns, e => by
    cases d with
    | int i =>
      simp only [keysI, Option.map_eq_some_iff] at e
      obtain ⟨ns', e1, rfl⟩ := e
      simp only [keysD, keyD, keysI_tkey e1, List.map_cons]
    | _ => cases e
theorem intsDs_tkey : ∀ {ds : List D} {ns : List (List Int)}, intsDs ds = some ns → ds.map tkeyD = ns.map fun n => some (n.map Sum.inl)
  | [], ns, e => by simp only [intsDs, Option.some.injEq] at e; subst e; rfl
  | d :: ds, ns, e => by
    unfold intsDs at e
    split at e
    · rename_i n ns' e1 e2
      cases e
      cases d with
      | tup xs => simp only [intsD] at e1; simp only [List.map_cons, tkeyD, keysI_tkey e1, intsDs_tkey e2]
      | _ => cases e1
    · cases e
section
variable {c : Ct} {w : Wd}
theorem mergeT_ok : ∀ {ks2 us2 : List D} {more : List (List Key × V)} {ks us : List D} {kvs : List (List Key × V)} {p : List D × List D}, ks.map tkeyD = kvs.map (fun p => some p.1) → VRs c w us (kvs.map (·.2)) → ks2.map tkeyD = more.map (fun p => some p.1) → VRs c w us2 (more.map (·.2)) → mergeT ks us ks2 us2 = some p →
    p.1.map tkeyD = (more.foldl (fun acc p => putK acc p.1 p.2) kvs).map (fun p => some p.1) ∧ VRs c w p.2 ((more.foldl (fun acc p => putK acc p.1 p.2) kvs).map (·.2))
  | [], [], [], ks, us, kvs, p, a, b, _, _, e => by simp only [mergeT, Option.some.injEq] at e; subst e; exact ⟨a, b⟩
  | k :: ks2, u :: us2, q :: more, ks, us, kvs, p, a, b, c1, d, e => by
    simp only [mergeT] at e
    simp only [List.map_cons, List.cons.injEq] at c1
    simp only [List.map_cons, VRs, List.cons.injEq] at d
    obtain ⟨v, vs, ⟨rfl, rfl⟩, d1, d2⟩ := d
    split at e
    · rename_i pr ep
      obtain ⟨_, z2, z3⟩ := kputG_ok c1.1 d1 a b ep
      simp only [List.foldl_cons]
      exact mergeT_ok (more := more) (kvs := putK kvs q.1 q.2) z2 z3 c1.2 d2 e
    · cases e
  | [], _, _ :: _, _, _, _, _, _, _, c1, _, _ => by simp at c1
  | _ :: _, _, [], _, _, _, _, _, _, c1, _, _ => by simp at c1
  | [], _ :: _, [], _, _, _, _, _, _, _, d, _ => by simp only [VRs, List.map_nil] at d; obtain ⟨_, _, z, _⟩ := d; cases z
  | _ :: _, [], _ :: _, _, _, _, _, _, _, _, d, _ => by simp only [VRs, List.map_cons] at d; cases d
end
theorem s_updT {c : Ct} : CallM c rUpdT updTF := fun {w W σ h H v vs x ds Q} s rx rs p => by
  unfold updTF at p
  split at p
  · rename_i h' r ks2 us2
    split at p
    · rename_i ks us ex
      split at p
      · rename_i hn
        split at p
        · rename_i pr ep
          obtain ⟨a, rfl, f, fF, kvs, q, kq, z⟩ := cell_at s rx ex (by rintro ⟨⟩)
          obtain ⟨u, rfl, ru⟩ := rs.one_inv'
          simp only [VR] at ru
          obtain ⟨b, od, more, rfl, q2, kq2, z2⟩ := ru
          have hab : a ≠ b := by rintro rfl; rw [fF] at q2; cases q2
          have l1 : kvs.length = ks.length := by simpa using (congrArg List.length kq).symm
          have l2 : more.length = ks2.length := by simpa using (congrArg List.length kq2).symm
          obtain ⟨m1, m2⟩ := mergeT_ok kq z kq2 z2 ep
          refine ⟨a, b, kvs, more, rfl, rfl, hab, q, .inr ⟨od, s.F _ _ q2⟩, by rw [sizeLine_eq]; have := hn.1; omega, ?_, p _ w _ (.refl _) (by simp only [RO, VR]) ?_⟩
          · rcases hn.2 with n0 | ⟨ns, en, nd⟩
            · refine .inl fun z0 => n0 ?_
              subst z0
              exact List.length_eq_zero_iff.mp (by simpa using l1.symm)
            · refine .inr ⟨ns, map_some_inj ?_, nd⟩
              have := intsDs_tkey en
              rw [kq2] at this
              rw [List.map_map, List.map_map]
              exact this
          · exact s.write ex (by rintro ⟨⟩) f ⟨_, upd_same, m1, m2⟩ (by rintro ⟨⟩)
        · exact p.elim
      · exact p.elim
    · exact p.elim
  · exact p.elim
def elseM (f g : D → List D → Hd → Res O) : D → List D → Hd → Res O := fun x ds h => match f x ds h with
  | .bad => g x ds h
  | r => r
theorem CallM.els {c : Ct} {r1 r2 : V → List V → Hp → VK → Prop} {f g : D → List D → Hd → Res O} (a : CallM c r1 f) (b : CallM c r2 g) : CallM c (fun x xs H Q => r1 x xs H Q ∨ r2 x xs H Q) (elseM f g) := fun {w W σ h H v vs x ds Q} s rx rs p => by
  unfold elseM at p
  cases e : f x ds h with
  | bad => rw [e] at p; exact .inr (b s rx rs p)
  | ok o h1 => rw [e] at p; exact .inl (a (W := W) (σ := σ) s rx rs (by rw [e]; exact p))
  | exc y h1 => rw [e] at p; exact .inl (a (W := W) (σ := σ) s rx rs (by rw [e]; exact p))
theorem MtR.or {X : Cx} {id : String} {r1 r2 : V → List V → Hp → VK → Prop} (a : MtR X id r1) (b : MtR X id r2) : MtR X id (fun x xs H Q => r1 x xs H Q ∨ r2 x xs H Q) := fun pins s σ H x xs v us Q I rx rxs h => h.elim (fun h => a pins s σ H x xs v us Q I rx rxs h) fun h => b pins s σ H x xs v us Q I rx rxs h
noncomputable def updGF : D → List D → Hd → Res O := elseM updF updTF
theorem mtd_updG {X : Cx} {k : Nat} (hr : Room k X.A) : MtR X "dict.update" (fun x xs H Q => rUpd x xs H Q ∨ rUpdT x xs H Q) := mtd_update.or (mtd_updateT (hu1 hr))
theorem s_updG {c : Ct} : CallM c (fun x xs H Q => rUpd x xs H Q ∨ rUpdT x xs H Q) updGF := s_upd.els s_updT
def mMeth0 (ty : Hd → D → Bool) (f : D → List D → Hd → Res O) (mo : ME) : Env → Hd → Res O := fun ρ h => (mo ρ h).bind fun x h => if ty h x then f x [] h else .bad
theorem e_meth0 {X : Cx} {W : WX} {o : Expr} {mo : ME} {apos cpos : Pos} {T id : String} {name : Str} {r : V → List V → Hp → VK → Prop} {f : D → List D → Hd → Res O} {ty : Hd → D → Bool}
    (pa : PlainAttrs T) (slot : Slot T name id) (hty : typeOf (.builtin id) = pure (.type "method_descriptor")) (hm : MtR X id r) (hT : TyS (Cx.ct X) T ty) (hf : CallM (Cx.ct X) r f) (ho : SE X W o mo)
    (hbase : attributeBase o name X.env (eval o X.env) = eval o X.env := by rfl) (hline : (apos.endLine == cpos.line) = true := by rfl) : SO X W (.Call (.Attribute o name apos) [] [] cpos) (mMeth0 ty f mo) :=
  PE.imp (pe_bm0 pa slot hty hm ho hbase hline) fun σ H Q q => by
  refine (tP.bind (k := fun ρ x h => if ty h x then f x [] h else .bad) q).mono fun v H1 ⟨w1, ρ, h1, d, e1, s1, r1, p1⟩ => ?_
  split at p1
  · rename_i hd
    exact ⟨hT s1 r1 hd, hf s1 r1 .nil p1⟩
  · exact p1.elim
theorem VRs.dropL {c : Ct} {w : Wd} {ds : List D} {vs : List V} (r : VRs c w ds vs) : VRs c w ds.dropLast vs.dropLast := by
  have q := VRs.erase (ds.length - 1) r
  rw [PyProof.Rows.Copied.eraseIdx_last] at q
  rw [r.len, PyProof.Rows.Copied.eraseIdx_last] at q
  exact q
def popLF : D → List D → Hd → Res O
  | .ref r, [], h => match h[r]? with
    | some (.lst xs) => (match xs[xs.length - 1]? with
      | some d => .ok (.val d) (h.set r (.lst xs.dropLast))
      | none => .bad)
    | _ => .bad
  | _, _, _ => .bad
theorem s_popL {c : Ct} : CallM c rPop popLF := fun {w W σ h H v vs x ds Q} s rx rs p => by
  unfold popLF at p
  split at p
  · rename_i r h'
    split at p
    · rename_i xs ex
      split at p
      · rename_i d ed
        obtain ⟨a, rfl, f, _, us, q, z⟩ := cell_at s rx ex (by rintro ⟨⟩)
        simp only [VRs] at rs
        subst rs
        obtain ⟨y, ey, ry⟩ := z.get ed
        exact ⟨a, us, y, rfl, rfl, q, by rw [← z.len]; exact ey, p _ w _ (.refl _) ry (s.write ex (by rintro ⟨⟩) f ⟨_, upd_same, z.dropL⟩ (by rintro ⟨⟩))⟩
      · exact p.elim
    · exact p.elim
  · exact p.elim
end DD
namespace L2
open PySem PySem.Spec PyProof.Rows
theorem RoomG.in1 {k : Nat} {A : Around} (r : RoomG (k + 1) A) : RoomG k A.in1 := ⟨r.r.in1, r.g⟩
theorem isFn_cls {K : PySem.W.Frag} {h : Heap} {f : Addr} (X : K.In h) (e : PySem.W.isFn K (.ref f) = true) : ∃ o, h.get? f = some o ∧ o.cls = .type "function" := by
  have e' : Option.map (fun x : Obj => x.cls) (K.lookup f) = some (.type "function") := (beq_iff_eq.mp e : PySem.W.typeIn K (.ref f) = some (.type "function"))
  cases q : K.lookup f with
  | none => rw [q] at e'; cases e'
  | some o => rw [q] at e'; exact ⟨o, X _ _ q, by simpa using e'⟩
/-- len(o) by an own __len__ -/
def rLenO (C : Addr) (sp : Sp) (gV : List V → List V → List V) : List V → Hp → VK → Prop := fun xs H Q => ∃ a dx fs, xs = [.ref a] ∧ H a = some (.ins C dx fs) ∧ sp (gV [.ref a] []) H (fun v H' => ∃ n : Nat, v = .int (n : Int) ∧ n < 2 ^ 63 ∧ Q (.int (n : Int)) H') (fun _ _ _ => False)
theorem cr_lenO {X : Cx} {C f : Addr} {fd : FuncData} {ps : List Str} {k : Nat} {sp : Sp} {CX : CXT} {g : List Value → List Value → List Value} {gV : List V → List V → List V} (F : FnG X.prog X.w X.K X.mg X.base CX k f fd ps sp) (hm : Meth X.K C "__len__" f) (hr : RoomG (k + 1) X.A) (hb : KBn X.K fd ps 1 [] g gV)
    (hx : ∀ σ, PassesAt CX X σ (fun _ _ _ => False)) : CallR X (.builtin "len") (rLenO C sp gV) := by
  intro pins s σ H xs us Q I r h
  obtain ⟨a, dx, fs, rfl, ha, want⟩ := h
  obtain ⟨u, rfl, ru⟩ := vals1 r
  obtain rfl : u = Value.ref a := ru
  obtain ⟨mA, J, _⟩ := ins_get I.hok ha
  obtain ⟨od, J, _⟩ := J.look
  obtain ⟨of, hof, hfc⟩ := isFn_cls I.kIn hm.fn
  refine Calls.call_function_entry kind_len plain_len entry_len (args_len1 _) ?_
  unfold Builtin.«len»
  refine wpAny_bind (m := oneArg "len" _) (wpAny_pure ?_)
  refine wpAny_bind (m := callSpecial? (.ref a) (PySem.Str.ofString "__len__")) ?_
  unfold callSpecial? specialOf
  refine wpAny_bind (wpAny_bind (J.type.here ((PySem.W.looks_findIn I.kIn hm.at_).here ?_)))
  refine wpAny_holding (wpAny_bind (wpAny_bindSpecial_def hof hfc ?_))
  have bt := hb.to s [Value.ref a] [] I.kIn rfl rfl
  refine wpAny_bind (wpAny_call (codeAny_mono (F.run X.A.in1 X.stack s H ⟨[Value.ref a], []⟩ (g [Value.ref a] []) (gV [V.ref a] []) _ (fun _ _ _ => False) hr.in1 ⟨I.env0.frames, I.env0.mod, I.env0.bs, I.env0.bsz, I.env0.funs, I.env0.frf, I.env0.hok, I.env0.bare⟩ (by simpa using bt) (hb.rel (.cons rfl .nil) .nil) want) fun res s2 hres => ?_))
  match res, hres with
  | .error er, hres => exact hx σ pins H s er s2 I hres
  | .ok (.ret u), hres =>
    obtain ⟨v, H3, J2, ru, n, ev, hn, q⟩ := I.after hres
    subst ev
    obtain ⟨t, rfl⟩ := ru
    refine wpAny_pure (wpAny_bind (wpAny_holding (wpAny_pure ?_)))
    refine wpAny_bind (wpAny_letGo ?_)
    show wpAny _ _ (if ((n : Nat) : Int) < 0 then _ else _) _ _ _
    rw [if_neg (by omega)]
    show wpAny _ _ (if ((n : Nat) : Int) ≥ 2 ^ 63 then _ else _) _ _ _
    rw [if_neg (by omega)]
    exact wpAny_bind (wpAny_mkInt (wpAny_pure ⟨_, rfl, .int n, H3, J2.tok _, ⟨_, rfl⟩, q⟩))
  | .ok .next, hres => exact hres.elim
  | .ok .brk, hres => exact hres.elim
  | .ok .cont, hres => exact hres.elim
end L2
namespace DD
open PySem PySem.Spec L2 RZ
/-- len(o): cn the class, m what its __len__ computes -/
def lenOF (cn : Str) (gD : List D → List D → List D) (m : List D → Hd → Res D) : List D → Hd → Res O
  | [x], h => if (insOf h cn x).isSome then (match m (gD [x] []) h with
    | .ok (.int (.ofNat n)) h => if n < 2 ^ 63 then .ok (.val (.int (n : Int))) h else .bad
    | _ => .bad) else .bad
  | _, _ => .bad
theorem lenO_ok {X : Cx} {k : Nat} {cn : Str} {gD : List D → List D → List D} {m : List D → Hd → Res D} (C : MthG X.prog X.w X.K X.mg X.base k cn "__len__" 0 [] gD m) (hr : RoomG (k + 1) X.A) :
    ∃ r, CallR X (.builtin "len") r ∧ CallS (Cx.ct X) r (lenOF cn gD m) := by
  obtain ⟨C, f, fd, ps, F, V, hm, ⟨g, gV, hb, rel⟩⟩ := C.ex
  refine ⟨_, cr_lenO F hm hr hb fun σ pins H s e s' I c => ?_, fun {w W σ h H vs ds Q} s r p => ?_⟩
  · obtain ⟨_, _, _, _, _, _, _, _, _, _, _, _, hE⟩ := c
    exact hE.elim
  · unfold lenOF at p
    split at p
    · rename_i h' x
      split at p
      · rename_i hi
        obtain ⟨v, rfl, rv⟩ := r.one_inv
        obtain ⟨⟨ns, us⟩, ei⟩ := Option.isSome_iff_exists.mp hi
        obtain ⟨a, C', da, fs, rfl, hcm, ha1, rfl, z, na⟩ := insOf_ok s rv ei
        have hcm' : X.mg cn = some (.ref C') := hcm
        rw [V.m] at hcm'; cases hcm'
        obtain ⟨r1, l1⟩ := rel w [x] [] [.ref a] [] (.one rv) .nil rfl rfl
        refine ⟨a, da, fs, rfl, ha1, w, gD [x] [], _, r1, s, l1, ?_⟩
        cases q : m (gD [x] []) _ with
        | bad => rw [q] at p; exact p.elim
        | exc y h1 => rw [q] at p; exact p.elim
        | ok d h1 =>
          rw [q] at p
          intro v w2 H2 l rv2 s2
          cases d with
          | int i =>
            cases i with
            | ofNat n =>
              simp only at p
              split at p
              · rename_i hn
                simp only [VR] at rv2
                exact ⟨n, rv2, hn, p _ w2 H2 l (by simp only [RO, VR]) s2⟩
              · exact p.elim
            | negSucc n => exact p.elim
          | _ => exact p.elim
      · exact p.elim
    · exact p.elim
/-- len(o), o an instance of the class -/
theorem e_lenO {X : Cx} {W : WX} {e : Expr} {es : List Expr} {mas : MA} {p pos : Pos} {k : Nat} {cn : Str} {gD : List D → List D → List D} {m : List D → Hd → Res D} (C : MthG X.prog X.w X.K X.mg X.base k cn "__len__" 0 [] gD m) (hr : RoomG (k + 1) X.A)
    (hm : X.mg "len" = none) (hv : bootBuiltins "len" = some (.builtin "len")) (ha : SA X W (e :: es) mas) (hg : Gl X "len" := by rfl)
    (he : starEach (e :: es) X.env = (false, eval e X.env) :: starEach es X.env := by rfl) (hpl : (backTo pos (starEach es X.env)).any (·.1) = false := by rfl) : SO X W (.Call (.Name "len" p) (e :: es) [] pos) (mBi (lenOF cn gD m) mas) := by
  obtain ⟨r, c1, c2⟩ := lenO_ok C hr
  exact e_bi c1 c2 hm hv ha hg (by decide) (by decide) he hpl
/-- a def that stands in a class -/
def mthS (st : Stmt) (j : Nat) : Stmt := match st with
  | .ClassDef _ _ _ body _ _ _ _ _ _ _ => body.getD j (.Pass ⟨0, 0, 0, 0⟩)
  | _ => .Pass ⟨0, 0, 0, 0⟩
section
variable {P : Program} {w : World} {K : PySem.W.Frag} {mg : Str → Option Value} {base : Heap} {cn x : Str} {ps ks : List Str} {f : Addr} {fd : FuncData} {k n : Nat} {m : List D → Hd → Res D} {gD : List D → List D → List D}
structure ShM (K : PySem.W.Frag) (mg : Str → Option Value) (cn x : Str) (f : Addr) (fd : FuncData) (ps : List Str) (n : Nat) (ks : List Str) (gD : List D → List D → List D) : Prop where
  c : ∃ C, ClsV K mg cn C ∧ Meth K C x f
  b : BnG K mg fd ps (n + 1) ks gD
theorem ShM.mth (S : ShM K mg cn x f fd ps n ks gD) (F : FnG P w K mg base (L2.CX P w) k f fd ps (spM ⟨K, mg⟩ ps.length m)) : MthG P w K mg base k cn x n ks gD m :=
  let ⟨C, V, M⟩ := S.c
  ⟨C, f, fd, ps, F, V, M, S.b⟩
structure ShK (K : PySem.W.Frag) (mg : Str → Option Value) (cn : Str) (f : Addr) (fd : FuncData) (ps : List Str) (n : Nat) (ks : List Str) (gD : List D → List D → List D) : Prop where
  c : ∃ C, ClsV K mg cn C ∧ Mk K C f
  b : BnG K mg fd ps (n + 1) ks gD
theorem ShK.mak (S : ShK K mg cn f fd ps n ks gD) (F : FnG P w K mg base (L2.CX P w) k f fd ps (spM ⟨K, mg⟩ ps.length m)) : MakG P w K mg base k cn n ks gD m :=
  let ⟨C, V, M⟩ := S.c
  ⟨C, f, fd, ps, F, V, M, S.b⟩
/-- a class and the names that are no attributes of it -/
structure ClsN (K : PySem.W.Frag) (mg : Str → Option Value) (n : Str) (fs : List Str) : Prop where
  ex : ∃ C, ClsV K mg n C ∧ ∀ f ∈ fs, NoAttr K C f
theorem ClsN.V {fs : List Str} (h : ClsN K mg n' fs) : ClsV K mg n' h.ex.choose := h.ex.choose_spec.1
theorem ClsN.na {fs : List Str} {f : Str} (h : ClsN K mg n' fs) (m : f ∈ fs := by decide) : NoAttr K h.ex.choose f := h.ex.choose_spec.2 f m
end
section
variable {h : Hd} {ρ : Env} {cn n f : Str} {gD : List D → List D → List D} {m : List D → Hd → Res D}
/-- fields -/
def fldK (n f : Str) : Res D → Res D
  | .ok d h => optR ((insOf h n d).bind fun p => lookL f p.1 p.2) h
  | .exc x h => .exc x h
  | .bad => .bad
@[simp] theorem fldK_ok (n f : Str) (d : D) (h : Hd) : fldK n f (.ok d h) = optR ((insOf h n d).bind fun p => lookL f p.1 p.2) h := rfl
@[simp] theorem mFld_k (n f : Str) (mo : ME) (ρ : Env) (h : Hd) : mFld n f mo ρ h = fldK n f (mo ρ h) := by unfold mFld fldK; cases mo ρ h <;> rfl
def fldSK2 (n f : Str) (ρ : Env) (d : D) : Res D → Fl
  | .ok x h => (match fldS n f x d h with
    | some h => .nx ρ h
    | none => .bad)
  | .exc x h => .exc x ρ h
  | .bad => .bad
def fldSK (n f : Str) (mo : ME) (ρ : Env) : Res D → Fl
  | .ok d h => fldSK2 n f ρ d (mo ρ h)
  | .exc x h => .exc x ρ h
  | .bad => .bad
@[simp] theorem fldSK_ok (n f : Str) (mo : ME) (ρ : Env) (d : D) (h : Hd) : fldSK n f mo ρ (.ok d h) = fldSK2 n f ρ d (mo ρ h) := rfl
@[simp] theorem fldSK2_ok (n f : Str) (ρ : Env) (d x : D) (h : Hd) : fldSK2 n f ρ d (.ok x h) = match fldS n f x d h with
    | some h => .nx ρ h
    | none => .bad := rfl
@[simp] theorem mFldS_k (n f : Str) (mo mv : ME) (ρ : Env) (h : Hd) : mFldS n f mo mv ρ h = fldSK n f mo ρ (mv ρ h) := by
  unfold mFldS liftR
  cases e : mv ρ h with
  | ok d h1 =>
    simp only [e, Res.bind_ok, fldSK_ok]
    cases e2 : mo ρ h1 with
    | ok x h2 => simp only [Res.bind_ok, fldSK2_ok]; cases fldS n f x d h2 <;> rfl
    | exc x h2 => rfl
    | bad => rfl
  | exc x h1 => simp only [e]; rfl
  | bad => simp only [e]; rfl
/-- methods -/
def mthGK (cn : Str) (n j : Nat) (gD : List D → List D → List D) (m : List D → Hd → Res D) (ma mk : MA) (ρ : Env) : Res D → Res D
  | .ok x h => if (insOf h cn x).isSome then calGA n j (fun ds es => gD (x :: ds) es) m mk ρ (ma ρ h) else .bad
  | .exc x h => .exc x h
  | .bad => .bad
@[simp] theorem mthGK_ok (n j : Nat) (ma mk : MA) (x : D) (h : Hd) : mthGK cn n j gD m ma mk ρ (.ok x h) = if (insOf h cn x).isSome then calGA n j (fun ds es => gD (x :: ds) es) m mk ρ (ma ρ h) else .bad := rfl
@[simp] theorem mMthG_k (n j : Nat) (mo : ME) (ma mk : MA) (ρ : Env) (h : Hd) : mMthG cn n j gD m mo ma mk ρ h = mthGK cn n j gD m ma mk ρ (mo ρ h) := by
  unfold mMthG
  cases mo ρ h with
  | ok x h1 =>
    simp only [Res.bind_ok, mthGK_ok]
    by_cases hi : (insOf h1 cn x).isSome
    · simp only [hi, if_true]
      cases ma ρ h1 with
      | ok ds h2 =>
        simp only [Res.bind_ok, calGA_ok]
        cases mk ρ h2 with
        | ok es h3 => rfl
        | exc x h3 => rfl
        | bad => rfl
      | exc x h2 => rfl
      | bad => rfl
    · simp only [hi]; rfl
  | exc x h1 => rfl
  | bad => rfl
/-- makings -/
def makGK2 (cn : Str) (n j : Nat) (gD : List D → List D → List D) (m : List D → Hd → Res D) (ds : List D) : Res (List D) → Res D
  | .ok es h => if ds.length = n ∧ es.length = j then madeF h.length (m (gD (.ref h.length :: ds) es) (h ++ [.ins cn [] []])) else .bad
  | .exc x h => .exc x h
  | .bad => .bad
def makGK (cn : Str) (n j : Nat) (gD : List D → List D → List D) (m : List D → Hd → Res D) (mk : MA) (ρ : Env) : Res (List D) → Res D
  | .ok ds h => makGK2 cn n j gD m ds (mk ρ h)
  | .exc x h => .exc x h
  | .bad => .bad
@[simp] theorem makGK_ok (n j : Nat) (mk : MA) (ds : List D) (h : Hd) : makGK cn n j gD m mk ρ (.ok ds h) = makGK2 cn n j gD m ds (mk ρ h) := rfl
@[simp] theorem makGK2_ok (n j : Nat) (ds es : List D) (h : Hd) : makGK2 cn n j gD m ds (.ok es h) = if ds.length = n ∧ es.length = j then madeF h.length (m (gD (.ref h.length :: ds) es) (h ++ [.ins cn [] []])) else .bad := rfl
@[simp] theorem madeF_ok (r : Nat) (h : Hd) : madeF r (.ok .non h) = .ok (.ref r) h := rfl
@[simp] theorem mMakG_k (n j : Nat) (ma mk : MA) (ρ : Env) (h : Hd) : mMakG cn n j gD m ma mk ρ h = makGK cn n j gD m mk ρ (ma ρ h) := by
  unfold mMakG
  cases ma ρ h with
  | ok ds h1 =>
    show (mk ρ h1).bind _ = makGK2 cn n j gD m ds (mk ρ h1)
    unfold makGK2
    cases mk ρ h1 <;> rfl
  | exc x h1 => rfl
  | bad => rfl
/-- methods of built-in classes, no argument -/
def meth0K (ty : Hd → D → Bool) (f : D → List D → Hd → Res O) : Res D → Res O
  | .ok x h => if ty h x then f x [] h else .bad
  | .exc x h => .exc x h
  | .bad => .bad
@[simp] theorem meth0K_ok (ty : Hd → D → Bool) (f : D → List D → Hd → Res O) (x : D) (h : Hd) : meth0K ty f (.ok x h) = if ty h x then f x [] h else .bad := rfl
@[simp] theorem mMeth0_k (ty : Hd → D → Bool) (f : D → List D → Hd → Res O) (mo : ME) (ρ : Env) (h : Hd) : mMeth0 ty f mo ρ h = meth0K ty f (mo ρ h) := by unfold mMeth0 meth0K; cases mo ρ h <;> rfl
/-- dict comprehensions: the source first -/
noncomputable def dcK (tk : Bool) (vs : List Nat) (g : MG) (t : MT) (ek ev : ME) (ρ : Env) : Res Src → Res O
  | .ok s h => (dcGo (kput tk) s.chk g t ek ev (wipeD ρ vs) s.items [] [] h).bind fun p h => .ok (.new (kcell tk p.1 p.2)) h
  | .exc x h => .exc x h
  | .bad => .bad
@[simp] theorem dcK_ok (tk : Bool) (vs : List Nat) (g : MG) (t : MT) (ek ev : ME) (ρ : Env) (s : Src) (h : Hd) : dcK tk vs g t ek ev ρ (.ok s h) = (dcGo (kput tk) s.chk g t ek ev (wipeD ρ vs) s.items [] [] h).bind fun p h => .ok (.new (kcell tk p.1 p.2)) h := rfl
@[simp] theorem mDc_k (tk : Bool) (vs : List Nat) (mi : MI) (g : MG) (t : MT) (ek ev : ME) (ρ : Env) (h : Hd) : mDc tk vs mi g t ek ev ρ h = dcK tk vs g t ek ev ρ (mi ρ h) := by unfold mDc dcK; cases mi ρ h <;> rfl
@[simp] theorem kcell_t (ks us : List D) : kcell true ks us = .dtt ks us := rfl
@[simp] theorem kcell_f (ks us : List D) : kcell false ks us = .dct ks us := rfl
theorem dcGo_nil {put : List D → List D → D → D → Option (List D × List D)} {chk : Hd → Prop} {g : MG} {t : MT} {ek ev : ME} {ks us : List D} (c : chk h) : dcGo put chk g t ek ev ρ [] ks us h = .ok (ks, us) h := by unfold dcGo; rw [if_pos c]
/-- one turn that stores -/
theorem dcGo_put {put : List D → List D → D → D → Option (List D × List D)} {chk : Hd → Prop} {g : MG} {t : MT} {ek ev : ME} {ρ1 : Env} {h1 h2 h3 h4 : Hd} {d y v : D} {ds ks us : List D} {p : List D × List D} (c : chk h) (q1 : g d ρ h = .ok ρ1 h1) (q2 : t ρ1 h1 = .ok true h2) (q3 : ek ρ1 h2 = .ok y h3) (q4 : ev ρ1 h3 = .ok v h4) (q5 : put ks us y v = some p) :
    dcGo put chk g t ek ev ρ (d :: ds) ks us h = dcGo put chk g t ek ev ρ ds p.1 p.2 h4 := by
  rw [dcGo, if_pos c, noX_ok q1]
  simp only [Res.bind_ok]
  rw [noX_ok q2]
  simp only [Res.bind_ok, if_true]
  rw [noX_ok q3]
  simp only [Res.bind_ok]
  rw [noX_ok q4]
  simp only [Res.bind_ok, q5]
/-- a comprehension that stores f of each item under a fresh key, the heap as it was -/
theorem dcGo_map {κ : Type} [DecidableEq κ] {α : Type} {kf : D → Option κ} {chk : Hd → Prop} {g : MG} {t : MT} {ek ev : ME} (fi fk fv : α → D) (c : chk h) :
    ∀ (xs : List α) (ks us : List D), (∀ x ∈ xs, ∃ ρ1, g (fi x) ρ h = .ok ρ1 h ∧ t ρ1 h = .ok true h ∧ ek ρ1 h = .ok (fk x) h ∧ ev ρ1 h = .ok (fv x) h) → (∀ x ∈ xs, (kf (fk x)).isSome) → (ks.map kf ++ xs.map fun x => kf (fk x)).Nodup → ks.length + xs.length ≤ 1000 → ks.length = us.length →
      dcGo (kputG kf) chk g t ek ev ρ (xs.map fi) ks us h = .ok (ks ++ xs.map fk, us ++ xs.map fv) h
  | [], ks, us, _, _, _, _, _ => by simp only [List.map_nil, List.append_nil]; exact dcGo_nil c
  | x :: xs, ks, us, a, b, nd, lz, lk => by
    obtain ⟨ρ1, a1, a2, a3, a4⟩ := a x (by simp)
    obtain ⟨k, ek⟩ := Option.isSome_iff_exists.mp (b x (by simp))
    have no : valG kf ks us k = none := by
      have hn : kf (fk x) ∉ ks.map kf := fun m => (List.nodup_append.mp nd).2.2 _ m _ (by simp) rfl
      rw [ek] at hn
      clear nd lz a b
      induction ks generalizing us with
      | nil => rfl
      | cons y ks ih =>
        cases us with
        | nil => cases lk
        | cons u us =>
          simp only [List.map_cons, List.mem_cons, not_or] at hn
          unfold valG
          rw [if_neg (fun z => hn.1 z.symm)]
          exact ih us (by simpa using lk) hn.2
    have hp : kputG kf ks us (fk x) (fv x) = some (ks ++ [fk x], us ++ [fv x]) := by
      unfold kputG
      rw [ek]
      simp only [no]
      rw [if_pos (by simp only [List.length_cons] at lz; omega)]
    rw [List.map_cons, dcGo_put c a1 a2 a3 a4 hp, dcGo_map fi fk fv c xs _ _ (fun y m => a y (List.mem_cons_of_mem _ m)) (fun y m => b y (List.mem_cons_of_mem _ m)) (by simpa [List.append_assoc] using nd) (by simp only [List.length_append, List.length_cons, List.length_nil] at lz ⊢; omega) (by simp [lk])]
    simp [List.append_assoc]
end
section
variable {h : Hd} {ρ : Env} {i r : Nat} {m : MS}
theorem mLk_ref {h1 : Hd} (e : ρ[i]? = some (some (.ref r))) (l : lkH r h = some h1) : mLk i m ρ h = unlkF r (m ρ h1) := by
  unfold mLk; simp only [e, l]
theorem mLk_no {d : D} (e : ρ[i]? = some (some d)) (n : ∀ r, d ≠ .ref r) : mLk i m ρ h = m ρ h := by
  unfold mLk; rw [e]; cases d <;> first | rfl | exact absurd rfl (n _)
theorem lkH_d {ks us : List D} (e : h[r]? = some (.dct ks us)) : lkH r h = some (h.set r (.lkd ks us)) := by unfold lkH; rw [e]
theorem lkH_t {ks us : List D} (e : h[r]? = some (.dtt ks us)) : lkH r h = some (h.set r (.lkt ks us)) := by unfold lkH; rw [e]
theorem unlkF_nx {ρ2 : Env} {ks us : List D} (e : h[r]? = some (.lkd ks us)) : unlkF r (.nx ρ2 h) = .nx ρ2 (h.set r (.dct ks us)) := by simp only [unlkF, unlkH, e]
theorem unlkF_nxT {ρ2 : Env} {ks us : List D} (e : h[r]? = some (.lkt ks us)) : unlkF r (.nx ρ2 h) = .nx ρ2 (h.set r (.dtt ks us)) := by simp only [unlkF, unlkH, e]
theorem unlkF_rtT {d : D} {ks us : List D} (e : h[r]? = some (.lkt ks us)) : unlkF r (.rt d h) = .rt d (h.set r (.dtt ks us)) := by simp only [unlkF, unlkH, e]
end
def lenDF : List D → Hd → Res O
  | [x], h => match dctOf h x with
    | some (ks, _) => .ok (.val (.int ks.length)) h
    | none => .bad
  | _, _ => .bad
def lenGF : List D → Hd → Res O := elseF lenF lenDF
@[simp] theorem lenGF_dct {h : Hd} (ks us : List D) : lenGF [.dct ks us] h = .ok (.val (.int ks.length)) h := by simp [lenGF, elseF, lenF, seqOf, lenDF, dctOf, valR, lstOf, optR]
@[simp] theorem srtG_dct {h : Hd} (ns : List Int) (us : List D) (hl : ns.length < 64) (e : keysI (ns.map D.int) = some ns) : srtGF [.dct (ns.map .int) us] h = .ok (.new (.lst ((srtI ns).map .int))) h := by
  simp [srtGF, elseF, srtDF, dctOf, e, hl]
@[simp] theorem srtG_nil {h : Hd} : srtGF [.lst []] h = .ok (.new (.lst [])) h := by
  simp [srtGF, elseF, srtDF, dctOf, srtF, listOf, lstOf, keysI, srtI]
end DD
namespace DD
open PySem PySem.Spec PyProof.Rows L2 RZ
section
variable {P : Program} {w : World} {A : Around} {E : Value → Shared → Prop} {s : Shared} {a b : Addr} {S S2 : Key → Bool} {n n2 : Nat}
/-- a set with its inside told -/
def SetI (w : World) (h : Heap) (a : Addr) (S : Key → Bool) (es : Array (Int × Value)) (ep : Nat) (t : SetTable) : Prop :=
  ∃ o, (h.get? a = some o ∧ o.ExactSet ∧ o.data = .set es ep t) ∧ ((∀ e ∈ es.toList, GoodM w e) ∧ (es.toList.map kE).Nodup ∧ ∀ k, S k = true ↔ k ∈ es.toList.map kE) ∧
    (es.size < scanBound ∧ t.fits es.size = true) ∧ Ris t.place.toList ∧ (w.params.followText "set-order" = true ∨ t.led = true)
theorem SetI.m {h : Heap} {es : Array (Int × Value)} {ep : Nat} {t : SetTable} (R : SetI w h a S es ep t) : SetM w h a S es.size := by
  obtain ⟨o, x1, x2, ⟨x3, x4⟩, x5⟩ := R
  exact ⟨o, es, ep, t, x1, x2, ⟨x3, x4, rfl⟩, x5⟩
theorem SetM.i {h : Heap} (R : SetM w h a S n) : ∃ es ep t, SetI w h a S es ep t ∧ es.size = n := by
  obtain ⟨o, es, ep, t, x1, x2, ⟨x3, x4, x6⟩, x5⟩ := R
  exact ⟨es, ep, t, ⟨o, x1, x2, ⟨x3, x4⟩, x5⟩, x6⟩
theorem SetI.at {h h' : Heap} {es : Array (Int × Value)} {ep : Nat} {t : SetTable} (R : SetI w h a S es ep t) (k : ∀ o, h.get? a = some o → h'.get? a = some o) : SetI w h' a S es ep t := by
  obtain ⟨o, ⟨q1, q2, q3⟩, r⟩ := R
  exact ⟨o, ⟨k o q1, q2, q3⟩, r⟩
end
def suF (z : Str) (d : D) (h : Hd) : Res O := match seqOf h d with
  | some xs => (match keysS xs with
    | some ss => if ss.length ≤ 12 then .ok (.new (.lst ((sd ltS (z :: ss)).map .str))) h else .bad
    | none => .bad)
  | none => .bad
noncomputable def mSU (mw me : ME) : Env → Hd → Res O := fun ρ h => (noX mw ρ h).bind fun d h1 => match d with
  | .str z => (noX me ρ h1).bind fun d2 h2 => suF z d2 h2
  | _ => .bad
end DD
namespace DD
open PySem PySem.Spec L2 RZ PySem.W
def suK2 (z : Str) : Res D → Res O
  | .ok d h => suF z d h
  | _ => .bad
noncomputable def suK (me : ME) (ρ : Env) : Res D → Res O
  | .ok (.str z) h => suK2 z (me ρ h)
  | _ => .bad
@[simp] theorem mSU_k (mw me : ME) (ρ : Env) (h : Hd) : mSU mw me ρ h = suK me ρ (mw ρ h) := by
  unfold mSU noX
  cases mw ρ h with
  | ok d h1 =>
    simp only [Res.bind]
    cases d with
    | str z => simp only [suK]; cases me ρ h1 <;> simp [suK2, Res.bind]
    | _ => simp [suK]
  | exc x h1 => simp [suK, Res.bind]
  | bad => simp [suK, Res.bind]
@[simp] theorem suK_ok (me : ME) (ρ : Env) (z : Str) (h : Hd) : suK me ρ (.ok (.str z) h) = suK2 z (me ρ h) := rfl
@[simp] theorem suK2_ok (z : Str) (d : D) (h : Hd) : suK2 z (.ok d h) = suF z d h := rfl
end DD
namespace L2
open PySem PySem.Spec
end L2
namespace DD
open PySem PySem.Spec L2 RZ
end DD
namespace L2
open PySem PySem.Spec PySem.W
end L2
namespace DD
open PySem PySem.Spec L2 RZ PySem.W
end DD
namespace DD
open PySem PySem.Spec PyProof.Rows L2 RZ
end DD
namespace DD
open PySem PySem.Spec L2 RZ
def ltL : List Int → List Int → Bool
  | [], [] => false
  | [], _ :: _ => true
  | _ :: _, [] => false
  | a :: as, b :: bs => decide (a < b) || (decide (a = b) && ltL as bs)
def okT (ns : List (List Int)) : Prop := (∃ (d : Nat) (B : Int), 1 ≤ d ∧ ∀ n ∈ ns, n.length = d ∧ TS.Bd B n) ∧ (sd ltL ns).length < 63
def tupI (n : List Int) : D := .tup (n.map .int)
open Classical in
noncomputable def sstF (d : D) (h : Hd) : Res O := match (listOf h d).bind intsDs with
  | some ns => if okT ns then .ok (.new (.lst ((sd ltL ns).map tupI))) h else .bad
  | none => .bad
noncomputable def mSST (m : ME) : Env → Hd → Res O := fun ρ h => (m ρ h).bind sstF
noncomputable def sstK : Res D → Res O
  | .ok d h => sstF d h
  | .exc x h => .exc x h
  | .bad => .bad
@[simp] theorem mSST_k (m : ME) (ρ : Env) (h : Hd) : mSST m ρ h = sstK (m ρ h) := by unfold mSST sstK; cases m ρ h <;> rfl
@[simp] theorem sstK_ok (d : D) (h : Hd) : sstK (.ok d h) = sstF d h := rfl
def parK3 (i j l : Nat) : List D → Env → Hd → Fl
  | [a, b, c], ρ, h => .nx (((ρ.set i (some a)).set j (some b)).set l (some c)) h
  | _, _, _ => .bad
def mPar3 (i j l : Nat) (ma : MA) : MS := liftR ma (parK3 i j l)
section
variable {X : Cx} {W : WX} {a b c : Expr} {mas : MA} {x y z : Str} {px py pz pt pt2 pos : Pos} {kt k2 : Nat}
def parKK3 (i j l : Nat) (ρ : Env) : Res (List D) → Fl
  | .ok ds h => parK3 i j l ds ρ h
  | .exc x h => .exc x ρ h
  | .bad => .bad
@[simp] theorem parKK3_ok (i j l : Nat) (ρ : Env) (a b c : D) (h : Hd) : parKK3 i j l ρ (.ok [a, b, c] h) = .nx (((ρ.set i (some a)).set j (some b)).set l (some c)) h := rfl
@[simp] theorem mPar3_k (i j l : Nat) (ma : MA) (ρ : Env) (h : Hd) : mPar3 i j l ma ρ h = parKK3 i j l ρ (ma ρ h) := by unfold mPar3 liftR parKK3; cases ma ρ h <;> rfl
end
end DD
namespace DD
open PySem PySem.Spec L2 RZ PySem.W
end DD
namespace DD
open PySem PySem.Spec L2 RZ PyProof.Rows
open Classical in
noncomputable def lc2Go (chk : Hd → Prop) (g : MG) (t : MT) (vs1 : List Nat) (mi : MI) (g1 : MG) (t1 : MT) (e : ME) (ρ : Env) : List D → List D → Hd → Res (List D)
  | [], acc, h => if chk h then .ok acc h else .bad
  | d :: ds, acc, h => if chk h then ((noX (g d) ρ h).bind fun ρ1 h1 => (noX t ρ1 h1).bind fun k h2 => if k then ((noX mi ρ1 h2).bind fun s1 h3 => (lcGo s1.chk g1 t1 e (wipeD ρ1 vs1) s1.items acc h3).bind fun acc1 h4 => lc2Go chk g t vs1 mi g1 t1 e ρ ds acc1 h4) else lc2Go chk g t vs1 mi g1 t1 e ρ ds acc h2) else .bad
noncomputable def mLc2 (vs vs1 : List Nat) (mi : MI) (g : MG) (t : MT) (mi1 : MI) (g1 : MG) (t1 : MT) (e : ME) : Env → Hd → Res O := fun ρ h => (mi ρ h).bind fun s h => (lc2Go s.chk g t vs1 mi1 g1 t1 e (wipeD ρ vs) s.items [] h).bind fun ds h => .ok (.new (.lst ds)) h
noncomputable def lc2K (vs vs1 : List Nat) (g : MG) (t : MT) (mi1 : MI) (g1 : MG) (t1 : MT) (e : ME) (ρ : Env) : Res Src → Res O
  | .ok s h => (lc2Go s.chk g t vs1 mi1 g1 t1 e (wipeD ρ vs) s.items [] h).bind fun ds h => .ok (.new (.lst ds)) h
  | .exc x h => .exc x h
  | .bad => .bad
@[simp] theorem mLc2_k (vs vs1 : List Nat) (mi : MI) (g : MG) (t : MT) (mi1 : MI) (g1 : MG) (t1 : MT) (e : ME) (ρ : Env) (h : Hd) : mLc2 vs vs1 mi g t mi1 g1 t1 e ρ h = lc2K vs vs1 g t mi1 g1 t1 e ρ (mi ρ h) := by
  unfold mLc2 lc2K
  cases mi ρ h <;> rfl
@[simp] theorem lc2K_ok (vs vs1 : List Nat) (g : MG) (t : MT) (mi1 : MI) (g1 : MG) (t1 : MT) (e : ME) (ρ : Env) (s : Src) (h : Hd) : lc2K vs vs1 g t mi1 g1 t1 e ρ (.ok s h) = (lc2Go s.chk g t vs1 mi1 g1 t1 e (wipeD ρ vs) s.items [] h).bind fun ds h => .ok (.new (.lst ds)) h := rfl
end DD
namespace DD
open PySem PySem.Spec L2 RZ
end DD
namespace DD
open PySem PySem.Spec L2 RZ PyProof.Rows
end DD
namespace DD
open PySem PySem.Spec L2 RZ
end DD
namespace DD
open PySem PySem.Spec L2 PyProof.Rows
end DD
namespace DD
open PySem PySem.Spec L2 RZ
end DD
namespace DD
open PySem PySem.Spec L2 RZ PySem.W
section
variable {prog : Program} {w : World} {A : Around} {E : Value → Shared → Prop} {s : Shared}
structure ED (s : Shared) (a : Addr) (n : Nat) : Prop where
  ex : ∃ o es ep, s.heap.get? a = some o ∧ o.ExactDict ∧ o.data = .dict es ep ∧ es.size = n
  sm : (a == sysModules) = false
theorem ED.ty {a : Addr} {n : Nat} (h : ED s a n) : s.TypeIs (.ref a) "dict" := by
  obtain ⟨o, es, ep, h1, h2, _⟩ := h.ex
  exact ⟨o, h1, h2.1⟩
end
/-- how many entries -/
def dcN (h : Hd) (d : D) : Option Nat := match dctOf h d with
  | some (ks, _) => some ks.length
  | none => (dttOf h d).map fun p => p.1.length
def emF (h : Hd) (d e : D) : Option Bool := match dcN h d, dcN h e with
  | some n, some 0 => some (n == 0)
  | _, _ => none
def cEqE (d e : D) (h : Hd) : Res Bool := optR (emF h d e) h
def cNeE (d e : D) (h : Hd) : Res Bool := optR ((emF h d e).map (!·)) h
end DD
namespace DD
open PySem PySem.Spec L2 RZ
theorem FnG.mono {P : Program} {w : World} {K : PySem.W.Frag} {mg : Str → Option Value} {base : Heap} {CX : CXT} {j k : Nat} {f : Addr} {fd : FuncData} {ps : List Str} {sp : Sp} (F : FnG P w K mg base CX j f fd ps sp) (l : j ≤ k) : FnG P w K mg base CX k f fd ps sp :=
  ⟨F.len, fun A outer s H args us vs Q E hr => F.run A outer s H args us vs Q E (hr.mono l)⟩
@[simp] theorem cEqE_k (d e : D) (h : Hd) : cEqE d e h = optR (emF h d e) h := rfl
@[simp] theorem cNeE_k (d e : D) (h : Hd) : cNeE d e h = optR ((emF h d e).map (!·)) h := rfl
end DD
namespace DD
open PySem PySem.Spec L2 RZ PySem.W
end DD
namespace DD
open PySem PySem.Spec L2 RZ PyProof.Rows
/-- what lies tracked at the law's call: its own table, the script if it is no constant -/
structure AtCall (K : PySem.W.Frag) (H : Hp) (a T : Addr) : Prop where
  tab : H T = some (.tbl #[])
  els : ∀ b u, H b = some u → b = T ∨ (b = a ∧ K.lookup a = none ∧ ∃ o xs, u = .frz o (.lst xs))
section
variable {P : Program} {w : World} {K : PySem.W.Frag} {mg mb : Str → Option Value} {k : Nat} {fa a c T : Addr} {fd : FuncData} {x : Str} {sp : Sp} {s : Shared} {vs : List Value} {H : Hp}
theorem AtCall.free (z : AtCall K H a T) (tT : s.heap.get? T = some { cls := .none, data := .fields #[] }) (la : s.heap.get? a = some { cls := .type "list", data := .seq vs.toArray }) {b : Addr} {o : Obj} (e : s.heap.get? b = some o)
    (d1 : o.data ≠ .fields #[]) (d2 : ∀ us n, o.data ≠ .seq us n) : H b = none := by
  cases q : H b with
  | none => rfl
  | some u =>
    rcases z.els b u q with e1 | ⟨e1, _⟩
    · rw [e1, tT] at e; cases e; exact absurd rfl d1
    · rw [e1, la] at e; cases e; exact absurd rfl (d2 _ _)
theorem AtCall.run (z : AtCall K H a T) (KX : K.In s.heap) (gm : s.heap.Ns mainGlobals mg) (gb : s.heap.Ns builtinsNs mb) (bb : ∀ x : Str, x ≠ "__name__" → mb x = bootBuiltins x) (nl : s.heap.NoLimit) (gn : s.gens = #[])
    (tT : s.heap.get? T = some { cls := .none, data := .fields #[] }) (kT : K.lookup T = none) (cd : PySem.W.CodeHd s.heap c T)
    (bn : ∃ (bm : Addr) (ob : Obj), mg "__builtins__" = some (.ref bm) ∧ bm ≠ builtinsNs ∧ s.heap.get? bm = some ob ∧ ob.cls = .type "module" ∧ ob.dict = some builtinsNs ∧ ob.data = .plain)
    (la : s.heap.get? a = some { cls := .type "list", data := .seq vs.toArray }) (hok : HOk P w H s.heap) (hr : RoomG k callerA)
    (F : ∀ base : Heap, K.In base → base.Ns mainGlobals mg → LamX.TabB base mg c T → FnG P w K mg base (L2.CX P w) k fa fd [x] sp) (bd : ∀ (s : Shared) (u : Value), BindsTo s fd ⟨[u], []⟩ [(x, u)])
    (want : sp [.ref a] H (fun v _ => v = .bl true) fun _ _ _ => False) :
    codeAny (model P w) callerA (.call (.ref fa) ⟨[.ref a], []⟩) (fun r s' => r = .ok (.ret (.bool true)) ∧ OldK s.heap s'.heap ∧ s'.os = s.os ∧ AllBare s'.gens) s := by
  have fr : ∀ {b : Addr} {o : Obj}, s.heap.get? b = some o → o.data ≠ .fields #[] → (∀ us n, o.data ≠ .seq us n) → H b = none := fun e d1 d2 => z.free tT la e d1 d2
  have k1 : K.In (hidT s.heap H) := fun b o e => hidT_get (KX b o e) (by
    cases q : H b with
    | none => rfl
    | some u =>
      rcases z.els b u q with e1 | ⟨e1, n, _⟩
      · rw [e1, kT] at e; cases e
      · rw [e1, n] at e; cases e)
  have k2 : ∀ {b : Addr} {m : Str → Option Value}, s.heap.Ns b m → (hidT s.heap H).Ns b m := fun {b m} ⟨o, es, ep, e, d, r⟩ =>
    ⟨o, es, ep, hidT_get e (fr e (fun q => nomatch d.symm.trans q) fun us n q => nomatch d.symm.trans q), d, r⟩
  have k3 : Mod K mg (hidT s.heap H) := ⟨k1, k2 gm, ⟨mb, k2 gb, bb⟩, by obtain ⟨mc, y1, y2⟩ := nl; exact ⟨mc, k2 y1, y2⟩⟩
  have gT : mainGlobals ≠ T := fun q => by
    obtain ⟨o, es, ep, e, d, _⟩ := gm
    rw [q, tT] at e; cases e; cases d
  have k4 : LamX.TabB (hidT s.heap H) mg c T := by
    refine ⟨?_, ?_, gT⟩
    · obtain ⟨o, us, fi, tf, fl, tg, iF, tx, tt, y1, y2, y3, y4, y5⟩ := cd
      exact ⟨o, us, fi, tf, fl, tg, iF, tx, tt, hidT_get y1 (fr y1 (fun q => by rw [y3] at q; cases q; simp at y4) fun us n q => nomatch y3.symm.trans q), y2, y3, y4, y5⟩
    · obtain ⟨bm, ob, y1, y2, y3, y4, y5, y6⟩ := bn
      refine ⟨bm, ob, y1, y2, fun q => ?_, fun q => ?_, hidT_get y3 (fr y3 (fun q => nomatch y6.symm.trans q) fun us n q => nomatch y6.symm.trans q), y4, y5, y6⟩
      · obtain ⟨o, es, ep, e, d, _⟩ := gm
        rw [q, e] at y3; cases y3; rw [d] at y6; cases y6
      · rw [q, tT] at y3; cases y3; cases y6
  have k5 : Env0 P w K mg (hidT s.heap H) callerA [] s H := ⟨rfl, k3, fun b o e => of_hidT e, Nat.le_of_eq (hidT_size _ _), trivial, fun b m => absurd (show b ∈ ([] : List Addr) from m) (by simp), hok, .of_eq gn⟩
  refine codeAny_mono ((F _ k1 (k2 gm) k4).run callerA [] s H ⟨[.ref a], []⟩ [.ref a] [.ref a] _ _ hr k5 (bd s (.ref a)) (.cons rfl .nil) want) fun r s' q => ?_
  match r, q with
  | .error e, q => obtain ⟨_, _, _, _, _, _, _, _, _, _, _, _, q⟩ := q; exact q.elim
  | .ok .next, q => exact q.elim
  | .ok .brk, q => exact q.elim
  | .ok .cont, q => exact q.elim
  | .ok (.ret u), q =>
    obtain ⟨v, H', os, bare, un, ok2, rv, ev⟩ := q
    replace ev : v = .bl true := ev
    subst ev
    obtain rfl : u = Value.bool true := rv
    have same : ∀ b o, b ≠ T → s.heap.get? b = some o → s'.heap.get? b = some o := fun b o nT e => by
      cases q : H b with
      | none => exact un.keep b o e q (fun m => absurd (show b ∈ ([] : List Addr) from m) (by simp)) (by simp)
      | some u =>
        rcases z.els b u q with e1 | ⟨_, _, ob, xs, e1⟩
        · exact absurd e1 nT
        · subst e1
          obtain ⟨y1, _⟩ := hok b _ q
          obtain ⟨y2, _⟩ := ok2 b _ (un.frzs b ob _ q)
          rw [e] at y1; cases y1; exact y2
    obtain ⟨more, tm⟩ := un.tbls T #[] z.tab
    have tm2 : s'.heap.get? T = some { cls := .none, data := .fields (#[] ++ more) } := ok2 T _ tm
    refine ⟨rfl, ⟨fun b o e => ?_, fun b o e => ?_⟩, os, bare⟩
    · by_cases y : b = T
      · subst y
        rw [tT] at e; cases e
        exact .inr (.inl ⟨(cd.tab tT).isCodeTable, rfl, #[], more, rfl, tm2⟩)
      · exact .inl (same b o y e)
    · by_cases y : b = T
      · exact ⟨_, y ▸ tm2⟩
      · exact ⟨o, same b o y e⟩
end
/-- the walk's end for such a law -/
theorem walkTG {l : PySem.W.OpenLaw} {q : Program} {loose : List Str} {XP : (Str → Option Value) → Heap → Prop} {YP : World → Heap → Prop} {d : DefRec} {K : Params → PySem.W.Frag} {k : Nat} {x : Str} (hn : l.most = some 63) (hdf : d.params.defaults = []) (hr : RoomG k callerA)
    (rec : ((recsOf q).any fun e => e.name == d.name) = true) (hY : ∀ (w : World) (h : Heap), YP w h → (K w.params).In h)
    (F : ∀ (w : World) (mg : Str → Option Value) (fa : Addr) (h : Heap), (K w.params).In h → h.Ns mainGlobals mg → mg d.name = some (.ref fa) → LamX.OwnTab (K w.params) fa h →
      ∃ (fd : FuncData) (c T : Addr), h.get? T = some { cls := .none, data := .fields #[] } ∧ (K w.params).lookup T = none ∧ PySem.W.CodeHd h c T ∧ (∀ (s : Shared) (u : Value), BindsTo s fd ⟨[u], []⟩ [(x, u)]) ∧
        ∀ base : Heap, (K w.params).In base → base.Ns mainGlobals mg → LamX.TabB base mg c T → FnG l.prog w (K w.params) mg base (L2.CX l.prog w) k fa fd [x] (spT (K w.params) T)) :
    PySem.W.WalkO q loose XP YP l.row.toRowW d [] (fun f vs => PySem.call f vs) := by
  refine Att.attach_callB hn hdf fun w s₀ s₁ mg mb fa o pm cd doc a vs ns G Y ho hd hcd hmg hobj hints hlen hbits hg => ?_
  have KX := hY w _ Y
  have own : LamX.OwnTab (K w.params) fa s₁.heap := fun c P o1 fd1 e dd vs1 sl z1 z2 z3 z4 z5 => by
    obtain ⟨dL, m1, m2⟩ := List.any_eq_true.mp rec
    obtain ⟨a', o', fd', c', P', y1, y2, y3, y4, y5, y6⟩ := G.T.tab dL m1
    rw [show dL.name = d.name from beq_iff_eq.mp m2, hmg] at y1
    cases y1
    rw [KX _ _ z1] at y2
    cases y2
    rw [z2] at y3
    cases y3
    rw [z3] at y4
    cases y4
    obtain ⟨⟨oc, vc, t1, _, t3, t4⟩, hP⟩ := y6
    rw [KX _ _ z4] at t1
    cases t1
    cases t3
    rw [z5] at t4
    cases t4
    exact hP
  obtain ⟨fd, c, T, tT, kT, cdh, bd, hF⟩ := F w mg fa _ KX G.T.g hmg own
  have rv := vals_ints hints
  have lenV := hints.length
  have nT : a ≠ T := fun z => by
    rw [z, tT] at hobj
    have := congrArg (fun o => o.map Obj.cls) hobj
    cases this
  have fin : ∀ H : Hp, AtCall (K w.params) H a T → SqL (K w.params) H a (ns.map V.int) → HOk l.prog w H s₁.heap → codeAny (model l.prog w) callerA (.call (.ref fa) ⟨[.ref a], []⟩) (fun r s' => r = .ok (.ret (.bool true)) ∧ OldK s₁.heap s'.heap ∧ s'.os = s₁.os ∧ AllBare s'.gens) s₁ := fun H z sq hok =>
    z.run KX G.T.g G.T.b G.T.builtins G.T.nolimit hg tT kT cdh G.T.bmain hobj hok hr hF bd ⟨a, ns, rfl, sq, hlen, z.tab, fun _ => rfl⟩
  cases hk : (K w.params).lookup a with
  | some o1 =>
    have e := KX a o1 hk
    rw [hobj] at e
    cases e
    refine fin (fun b => if b = T then some (.tbl #[]) else none) ⟨if_pos rfl, fun b u e => ?_⟩ (.inr ⟨_, vs.toArray, _, hk, rfl, rfl, rfl, by rw [List.size_toArray, lenV]; exact Nat.le_trans hlen (by decide), by simpa using rv⟩) fun b u e => ?_
    · by_cases y : b = T
      · exact .inl y
      · exact nomatch (if_neg y).symm.trans e
    · by_cases y : b = T
      · have e := (if_pos y).symm.trans e
        cases e; exact y ▸ tT
      · exact nomatch (if_neg y).symm.trans e
  | none =>
    refine fin (fun b => if b = T then some (.tbl #[]) else if b = a then some (.frz { cls := .type "list", data := .seq vs.toArray } (.lst (ns.map V.int))) else none) ⟨if_pos rfl, fun b u e => ?_⟩ (.inl (.inr ⟨{ cls := .type "list", data := .seq vs.toArray }, (if_neg nT).trans (if_pos rfl)⟩)) fun b u e => ?_
    · by_cases y : b = T
      · exact .inl y
      · have e := (if_neg y).symm.trans e
        by_cases y2 : b = a
        · have e := (if_pos y2).symm.trans e
          cases e; exact .inr ⟨y2, hk, _, _, rfl⟩
        · exact nomatch (if_neg y2).symm.trans e
    · by_cases y : b = T
      · have e := (if_pos y).symm.trans e
        cases e; exact y ▸ tT
      · have e := (if_neg y).symm.trans e
        by_cases y2 : b = a
        · have e := (if_pos y2).symm.trans e
          cases e
          subst y2
          exact ⟨hobj, by rw [List.length_map]; exact Nat.le_trans hlen (by decide), vs, _, rv, hobj⟩
        · exact nomatch (if_neg y2).symm.trans e
/-- the law's def, over all defs' rules -/
theorem fn_okXT {P : Program} {w : World} {K : PySem.W.Frag} {mg : Str → Option Value} {base : Heap} {x qual : Str} {st : Stmt} {ps N : List Str} {f : Addr} {fd : FuncData} {k : Nat} {dvs : List D} {kws : List (Str × D)} {b : MS} (A : DefX K mg x qual st dvs kws f fd) (LC : LawC K mg base fd.code) (S : FnScope N ps (defScope st))
    (body : ∀ (cdv : Value) (A : Around) (outer : List PySem.Env) (s : Shared) (H : Hp) (E : XK), LawC K mg base cdv → RoomG k (A.deeper (PyProof.Rows.envOfC qual (defScope st) s.heap.objs.size f cdv)) →
      SSs (cxOf (L2.CX P w) P w K mg base N qual (defScope st) f cdv A outer s H E) (fun cls d _ H => E cls d H) (defBody st) b) : FnG P w K mg base (L2.CX P w) (k + 1) f fd ps (spM ⟨K, mg⟩ ps.length (runB N.length b)) := by
  have G : ∀ (cdv : Value), fd.code = cdv → LawC K mg base cdv := fun cdv e => e ▸ LC
  obtain ⟨dv, kv, F, _⟩ := A.ex
  obtain ⟨oc, od, dV, kV, doc, pm, an, cdv, ct, osl, rfl, lk, hcd, _, _⟩ := F.ex
  refine fn_ofG lk hcd S (fun vs H Q E ⟨w, ds, h, r, s, hl, p⟩ => by rw [← r.len]; exact hl) (fun A outer s H vs Q E hr ⟨w', ds, h, r, sr, hl, p⟩ => ?_)
  refine ⟨_, body cdv A outer s H E (G cdv rfl) hr, w', startD N.length ds, h, ER.start r, sr, ?_⟩
  unfold runB at p
  cases q : b (startD N.length ds) h with
  | nx ρ h1 => rw [q] at p; exact fun σ w2 H2 l e s => p .non w2 H2 l (by simp only [VR]) s
  | rt d h1 => rw [q] at p; exact p
  | bk ρ h1 => rw [q] at p; exact p.elim
  | ct ρ h1 => rw [q] at p; exact p.elim
  | exc y ρ h1 => rw [q] at p; exact fun cls dx σ w2 H2 l e s x => p cls dx w2 H2 l s x
  | bad => rw [q] at p; exact p
theorem law_endTG {P : Program} {w : World} {K : PySem.W.Frag} {mg : Str → Option Value} {base : Heap} {k : Nat} {f : Addr} {fd : FuncData} {ps : List Str} {m : List D → Hd → Res D} {T : Addr} (F : FnG P w K mg base (L2.CX P w) k f fd ps (spM ⟨K, mg⟩ 1 m)) (lt : lawTab K mg T)
    (main : ∀ ns : List Int, ns.length ≤ 63 → ∃ h', m [.rol (ns.map .int)] [] = .ok (.bl true) h') : FnG P w K mg base (L2.CX P w) k f fd ps (spT K T) :=
  F.imp fun vs H Q E ⟨a, ns, e, hq, hl, hO, q⟩ => by
    subst e
    obtain ⟨h', eh⟩ := main ns hl
    refine ⟨_, [.rol (ns.map .int)], [], .one ?_, sr_first fun P l => by rw [lawTab_one l lt]; exact hO, rfl, ?_⟩
    · simp only [VR]; exact ⟨a, ns.map V.int, rfl, SqL_unT hq, VRs_ints ns⟩
    · rw [eh]
      intro v w' H' l r s
      simp only [VR] at r
      subst r
      exact q H'
/-- all of it at the head's heap -/
theorem law_atG {P : Program} {w : World} {K : PySem.W.Frag} {mg : Str → Option Value} {h : Heap} {k : Nat} {fa c T : Addr} {fd : FuncData} {o : Obj} {x : Str} {m : List D → Hd → Res D} (KX : K.In h) (own : LamX.OwnTab K fa h) (on : lamOn = true) (hm : mg "law" = some (.ref fa)) (lk : K.lookup fa = some o) (hd : o.data = .func fd) (hc : fd.code = .ref c)
    (hh : PySem.W.codeHdIn K c T = true) (nT : K.lookup T = none) (hb : ∀ (s : Shared) (v : Value), BindsTo s fd ⟨[v], []⟩ [(x, v)]) (F : ∀ base : Heap, K.In base → base.Ns mainGlobals mg → LawC K mg base fd.code → FnG P w K mg base (L2.CX P w) k fa fd [x] (spM ⟨K, mg⟩ 1 m))
    (main : ∀ ns : List Int, ns.length ≤ 63 → ∃ h', m [.rol (ns.map .int)] [] = .ok (.bl true) h') :
    ∃ (fd : FuncData) (c T : Addr), h.get? T = some { cls := .none, data := .fields #[] } ∧ K.lookup T = none ∧ PySem.W.CodeHd h c T ∧ (∀ (s : Shared) (u : Value), BindsTo s fd ⟨[u], []⟩ [(x, u)]) ∧
        ∀ base : Heap, K.In base → base.Ns mainGlobals mg → LamX.TabB base mg c T → FnG P w K mg base (L2.CX P w) k fa fd [x] (spT K T) := by
  have lt : lawTab K mg T := ⟨on, fa, c, o, fd, hm, lk, hd, hc, hh⟩
  refine ⟨fd, c, T, ?_, nT, PySem.W.codeHd_of_K KX hh, hb, fun base kb nb tb => law_endTG (F base kb nb ⟨c, T, lt, hc, tb⟩) lt main⟩
  have hh2 := hh
  unfold PySem.W.codeHdIn at hh2
  split at hh2
  · rename_i dd vs sl e
    simp only [Bool.and_eq_true] at hh2
    have a1 := hh2.1.1.1.1.1
    split at a1
    · rename_i Q h11
      exact own c T o fd _ dd vs sl lk hd hc e (by rw [h11, beq_iff_eq.mp a1])
    · cases a1
  · cases hh2
/-- _law_ask(lambda: ..) where the lambda's body calls any def -/
theorem e_askG {X : Cx} {W : WX} {st : Stmt} {g : Addr} {fd : FuncData} {cl : List (Str × Str)} {params : Arguments} {body : Expr} {scope : Scope} {p lpos pos : Pos} {mb : ME} {k : Nat} (A : AskAt X.K X.mg st g fd cl) (LC : LawC X.K X.mg X.base X.env.code)
    (runs : ∀ (A : Around) (outer : List PySem.Env) (s : Shared) (H : Hp) (E : XK) (f c' : Addr), RoomG k (A.deeper (LamX.lamEnv X scope s.heap.objs.size f c')) → SE (LamX.lamCx X A outer s H E scope f c') (fun cls d _ H => E cls d H) body mb)
    (hr : RoomG (k + 2) X.A) (L : LamX.LamS X.env.scope scope) (hq : X.env.qual ++ "<lambda>" = lamQ := by rfl) (hdef : defaultsOf params X.env = ([], []) := by rfl)
    (bind0 : ∀ (q : Str) (cl : List (Str × Addr)) (pm cv ctv : Value), bindArgs (PySem.W.kla_fn "<lambda>" q params body scope cl pm cv ctv) ⟨[], []⟩ = pure [] := by intros; rfl) (hg : Gl X "_law_ask" := by rfl) :
    SE X W (.Call (.Name "_law_ask" p) [.Lambda params body scope lpos] [] pos) (mAsk cl mb) := by
  obtain ⟨oc, od, kV, doc, pm, an, cdv, ct, osl, ef, lk, hcd⟩ := A.F.F.ex
  obtain ⟨c, P, lt, hcode, TB⟩ := LC
  obtain ⟨CM, CS, CN, hG, KA⟩ := A.gives X (X.env.qual ++ "<lambda>") cdv rfl rfl
  have hb := A.F.b
  subst ef
  refine PE.imp (pe_asked (T := [(P, X.env.qual ++ "<lambda>")]) (t := fun E => tE (Cx.ct X) (fun cls d _ H => E cls d H) mb) hg A.F.m A.F.F.kp lk hcd hb A.sc rfl A.v hG TB hcode (by simp) (fun p hp _ => by
    rw [List.mem_singleton.mp hp]) hr.r L hdef bind0 (fun A outer s H E f c' g r => runs A outer s H E f c' ⟨r, guards_deeper.trans (g.trans hr.g)⟩) (fun E σ H Q Q' i q => tE_mono i q)) fun σ H Q ⟨w, ρ, h, e, s, q⟩ => ?_
  rw [hq]
  refine ⟨s.tabs lt, fun H1 eN T1 p0 hp0 => ?_⟩
  obtain ⟨l1, s1⟩ := s.grow (c := Cx.ct X) lt eN T1
  refine ⟨_, ρ, h, e.le l1, s1.laid hp0 _, ?_⟩
  have q1 : Post (RV (Cx.ct X)) (Cx.ct X) w W σ (askR cl (mb ρ h)) Q := q
  cases r : mb ρ h with
  | bad => rw [r] at q1; exact q1
  | ok d h1 =>
    rw [r] at q1
    intro v w2 H2 l2 rv s2 p hp
    obtain ⟨w3, l3, s3, r3⟩ := new_tup (ds := [d, .str ""]) (vs := [v, .str ""]) s2 (.cons rv (.one (by simp only [VR]))) hp
    exact q1 _ w3 _ ((l1.trans l2).trans l3) r3 s3
  | exc x h1 =>
    rw [r] at q1
    intro cls dx w2 H2 l2 s2 xr
    simp only [askR] at q1
    split at q1
    · rename_i t e1 e2
      obtain ⟨C, x1, x2, x3⟩ := xr
      have ed : dx = none := by
        rcases x3 with ⟨_, z⟩ | ⟨n, _⟩
        · exact z
        · exact absurd e2 n
      obtain ⟨k1, k2, k3⟩ := KA.one x.c t C e1 x1
      subst x2
      refine ⟨k1, k2, ed, C, t, rfl, k3, fun p hp => ?_⟩
      obtain ⟨w3, l3, s3, r3⟩ := new_tup (ds := [.non, .str t]) (vs := [.non, .str t]) s2 (.cons (by simp only [VR]) (.one (by simp only [VR]))) hp
      exact q1 _ w3 _ ((l1.trans l2).trans l3) r3 s3
    · exact q1.elim
abbrev ieTail : List Value := [.type "IndexError", .type "LookupError", .type "Exception", .type "BaseException", .type "object"]
structure ErrI (K : PySem.W.Frag) (mg : Str → Option Value) (x : Str) (C : Addr) : Prop extends ErrK K mg x C where
  i : PySem.W.excIn K C ieTail "IndexError.__new__" = true
theorem s_raiseI {X : Cx} {W : WX} {C : Addr} {x m : Str} {j : Nat} {p p2 pos pos' : Pos} (V : ErrI X.K X.mg x C) (hc : X.calm = true) (tk : Takes X W) (hg : Gl X x := by rfl) (hdb : (x == ("__debug__" : Str)) = false := by decide) : SS X W (.Raise (some (.Call (.Name x p) [.Constant (.str m) j p2] [] pos)) none pos') (mRaise x) :=
  PS.imp (ps_raise hc tk (pmk_own PySem.F.excBase_IndexError V.i V.m V.k (raises_own V.s V.t) hg hdb)) fun Dn σ H ⟨w, ρ, h, e, s, q⟩ => q (.ref C) none σ w H (.refl w) e s ⟨C, V.m, rfl, .inl ⟨rfl, rfl⟩⟩
end DD
namespace L2
open PySem PySem.Spec PyProof.Rows
/-- the class object at C: a plain class whose own __eq__ is f, without a __ne__ -/
def neIn (K : PySem.W.Frag) (C f : Addr) : Bool := match K.lookup C with
  | some ⟨.type "type", _, .cls cd, sl⟩ => (match cd.mro, sl.toList with
    | [.ref C', .type B], [_, _, _, _, some (.builtin n), _] => C' == C && B == "object" && n == "object.__new__" && !cd.hasDel && PySem.W.nsOkIn K cd.ns && PySem.W.nsIn K cd.ns "__eq__" == some (some (.ref f)) && PySem.W.nsIn K cd.ns "__ne__" == some none
    | _, _ => false)
  | _ => false
theorem ns_some_of {K : PySem.W.Frag} {h : Heap} {N : Addr} {mg : Str → Option Value} {n : Str} {v : Value} (X : K.In h) (G : h.Ns N mg) (e : PySem.W.nsIn K N n = some (some v)) : mg n = some v := by
  obtain ⟨o, es, ep, ho, hd, _, hf⟩ := G
  unfold PySem.W.nsIn at e
  split at e
  · rename_i c d es' n' sl q
    have q2 := X _ _ q
    rw [ho] at q2
    cases q2
    cases hd
    split at e
    · rename_i en he
      cases e
      rw [← hf]
      unfold nsFind findBy
      rw [← Array.find?_toList, he]
      rfl
    · split at e <;> cases e
  · cases e
theorem look_eq : ∃ y, typeLookup (.type "object") ("__eq__" : Str) = pure y := ⟨some (.builtin "object.__eq__"), by kernel_rfl⟩
theorem own_ne {K : PySem.W.Frag} {h : Heap} {C f a : Addr} {o of : Obj} (X : K.In h) (q : neIn K C f = true) (ho : h.get? a = some o) (hc : o.cls = .ref C) (hf : h.get? f = some of) (hfc : of.cls = .type "function") : h.OwnEqNoNe a C f "object" [.type "object"] := by
  obtain ⟨y, hy⟩ := look_eq
  unfold neIn at q
  split at q
  · rename_i dd cd sl hk
    split at q
    · rename_i C' B k0 k1 k2 k3 n k5 hm hs
      simp only [Bool.and_eq_true, beq_iff_eq, Bool.not_eq_true'] at q
      obtain ⟨⟨⟨⟨⟨⟨rfl, rfl⟩, rfl⟩, hdel⟩, hok⟩, he⟩, hn⟩ := q
      obtain ⟨nm, bs, mro, ns, qn, hd, sn, sub, ab, col, del⟩ := cd
      dsimp only at hm hdel hok he hn
      subst hm hdel
      have hsl : sl = #[k0, k1, k2, k3, some (.builtin "object.__new__"), k5] := by
        obtain ⟨l⟩ := sl
        simp only at hs
        rw [hs]
      subst hsl
      have NS := Heap.Ns.of_isNs (PySem.W.isNs_of_in X hok)
      exact ⟨o, of, nm, qn, ns, bs, hd, sn, sub, ab, col, dd, k0, k1, k2, k3, k5, "object.__new__", _, y, ho, hc, X _ _ hk, NS, ns_some_of X NS he, hf, hfc, PySem.F.mro_object, hy, PySem.W.nsMap_none_of_in X hok hn⟩
    · cases q
  · cases q
def rEqO (C : Addr) (sp : Sp) (gV : List V → List V → List V) (neg : Bool) : R2 := fun x y H Q => ∃ a b dx dy fs gs, x = .ref a ∧ y = .ref b ∧ H a = some (.ins C dx fs) ∧ H b = some (.ins C dy gs) ∧ sp (gV [.ref a, .ref b] []) H (fun v H' => ∃ r, v = .bl r ∧ Q (.bl (if neg then !r else r)) H') (fun _ _ _ => False)
section
variable {X : Cx} {C f : Addr} {fd : FuncData} {ps : List Str} {k : Nat} {sp : Sp} {CX : CXT} {g : List Value → List Value → List Value} {gV : List V → List V → List V} (F : FnG X.prog X.w X.K X.mg X.base CX k f fd ps sp) (hm : Meth X.K C "__eq__" f) (hr : RoomG (k + 1) X.A) (hb : KBn X.K fd ps 2 [] g gV)
  (hx : ∀ σ, PassesAt CX X σ (fun _ _ _ => False))
include F hm hr hb hx
theorem op_eqO : OpR X (compareOp .Eq) (rEqO C sp gV false) := by
  intro pins s σ H x y v u Q I rx ry h
  obtain ⟨a, b, dx, dy, fs, gs, rfl, rfl, ha, hb', want⟩ := h
  cases rx
  cases ry
  obtain ⟨mA, J, _⟩ := ins_get I.hok ha
  obtain ⟨mB, J', _⟩ := ins_get I.hok hb'
  obtain ⟨od, J, _⟩ := J.look
  obtain ⟨od', J', _⟩ := J'.look
  obtain ⟨m, hF⟩ := I.fr
  show wpAny (model X.prog X.w) X.A (richCompare .Eq (.ref a) (.ref b)) (EP X pins σ Q) X.xe s
  refine PySem.W.cmp_K (op := .Eq) (tb := .ref C) hr.r.units0 hF I.ok.mod.kin J J'.type (by simp [PySem.W.notFirst]) hm.at_ hm.fn ?_
  have bt := hb.to s [Value.ref a, .ref b] [] I.kIn rfl rfl
  refine wpAny_call (codeAny_mono (F.run X.A X.stack s H ⟨[Value.ref a, .ref b], []⟩ (g [Value.ref a, .ref b] []) (gV [V.ref a, .ref b] []) _ (fun _ _ _ => False) (hr.mono (by omega)) I.env0 (by simpa using bt) (hb.rel (.cons rfl (.cons rfl .nil)) .nil) want) fun res s2 hres => ?_)
  match res, hres with
  | .error er, hres => exact hx σ pins H s er s2 I hres
  | .ok (.ret w), hres =>
    obtain ⟨z, H3, J2, rz, r, ez, q⟩ := I.after hres
    subst ez
    cases rz
    exact ⟨.bl r, H3, J2, rfl, q⟩
  | .ok .next, hres => exact hres.elim
  | .ok .brk, hres => exact hres.elim
  | .ok .cont, hres => exact hres.elim
theorem op_neO (hn : neIn X.K C f = true) : OpR X (compareOp .NotEq) (rEqO C sp gV true) := by
  intro pins s σ H x y v u Q I rx ry h
  obtain ⟨a, b, dx, dy, fs, gs, rfl, rfl, ha, hb', want⟩ := h
  cases rx
  cases ry
  obtain ⟨mA, J, _⟩ := ins_get I.hok ha
  obtain ⟨mB, J', _⟩ := ins_get I.hok hb'
  obtain ⟨od, J, _⟩ := J.look
  obtain ⟨od', J', _⟩ := J'.look
  obtain ⟨of, hof, hfc⟩ := isFn_cls I.kIn hm.fn
  obtain ⟨hp, gg, d, t, os⟩ := s
  have Y := own_ne I.kIn hn J.1 J.2 hof hfc
  have bt := hb.to ⟨hp, gg, d, t, os⟩ [Value.ref a, .ref b] [] I.kIn rfl rfl
  refine compareOp_ne_ownEq PySem.F.cmp_object Y J'.1 J'.2 (by have := hr.r.un; omega) ?_
  refine wpAny_call (codeAny_mono (F.run X.A.in1 X.stack ⟨hp, gg, d, t, os⟩ H ⟨[Value.ref a, .ref b], []⟩ (g [Value.ref a, .ref b] []) (gV [V.ref a, .ref b] []) _ (fun _ _ _ => False) hr.in1 ⟨I.env0.frames, I.env0.mod, I.env0.bs, I.env0.bsz, I.env0.funs, I.env0.frf, I.env0.hok, I.env0.bare⟩ (by simpa using bt) (hb.rel (.cons rfl (.cons rfl .nil)) .nil) want) fun res s2 hres => ?_)
  match res, hres with
  | .error er, hres => exact hx σ pins H _ er s2 I hres
  | .ok (.ret w), hres =>
    obtain ⟨z, H3, J2, rz, r, ez, q⟩ := I.after hres
    subst ez
    cases rz
    exact ⟨r, rfl, .bl (!r), H3, J2, rfl, q⟩
  | .ok .next, hres => exact hres.elim
  | .ok .brk, hres => exact hres.elim
  | .ok .cont, hres => exact hres.elim
end
/-- the entries of ks found in ls, one by one -/
inductive HitsV (E : V → V → Bool → Prop) (ls : List (Key × V)) : List (Key × V) → Bool → Prop
  | nil : HitsV E ls [] true
  | miss {k : Key} {v : V} {r : List (Key × V)} : valV ls k = none → HitsV E ls ((k, v) :: r) false
  | hit {k : Key} {v y : V} {r : List (Key × V)} {e b : Bool} : valV ls k = some y → E v y e → HitsV E ls r b → HitsV E ls ((k, v) :: r) (e && b)
inductive AllV (E : V → V → Bool → Prop) : List V → List V → List Bool → Prop
  | nil : AllV E [] [] []
  | cons {x y : V} {xs ys : List V} {b : Bool} {bs : List Bool} : E x y b → AllV E xs ys bs → AllV E (x :: xs) (y :: ys) (b :: bs)
inductive EqBR (K : PySem.W.Frag) (H : Hp) (E : V → V → Bool → Prop) : V → V → Bool → Prop
  | dct {a a' : Addr} {ks ls : List (Key × V)} {r : Bool} : Rd H a (.dK ks) → Rd H a' (.dK ls) → HitsV E ls ks r → ks.length = ls.length → EqBR K H E (.ref a) (.ref a') r
  | dcl {a a' : Addr} {ks ls : List (Key × V)} : Rd H a (.dK ks) → Rd H a' (.dK ls) → ks.length ≠ ls.length → EqBR K H E (.ref a) (.ref a') false
  | lst {a a' : Addr} {xs ys : List V} {bs : List Bool} : SqL K H a xs → SqL K H a' ys → AllV E xs ys bs → EqBR K H E (.ref a) (.ref a') (bs.all id)
  | lsl {a a' : Addr} {xs ys : List V} : SqL K H a xs → SqL K H a' ys → xs.length ≠ ys.length → EqBR K H E (.ref a) (.ref a') false
def EqB (K : PySem.W.Frag) (H : Hp) : Nat → V → V → Bool → Prop
  | 0 => fun _ _ _ => False
  | n + 1 => fun x y b => (∃ d e, Dp K H x d ∧ Dp K H y e ∧ d.canLay0 = true ∧ e.canLay0 = true ∧ min d.depth e.depth ≤ 32 ∧ PyData.eqv d e = b) ∨ EqBR K H (EqB K H n) x y b
section
variable {X : Cx} {pins : List (Addr × Obj)} {σ : St} {H : Hp} {s : Shared}
theorem AllV.length {E : V → V → Bool → Prop} {xs ys : List V} {bs : List Bool} (h : AllV E xs ys bs) : xs.length = ys.length ∧ bs.length = xs.length := by
  induction h with
  | nil => exact ⟨rfl, rfl⟩
  | cons _ _ ih => exact ⟨by simp [ih.1], by simp [ih.2]⟩
theorem Rd.uniq {a : Addr} {u v : HO} (p : Rd H a u) (q : Rd H a v) (nu : ∀ o x, u ≠ .frz o x) (nv : ∀ o x, v ≠ .frz o x) : u = v := by
  rcases p with p | ⟨o, p⟩ <;> rcases q with q | ⟨o', q⟩ <;> rw [p] at q <;> cases q
  · rfl
  · exact absurd rfl (nu _ _)
  · exact absurd rfl (nv _ _)
  · rfl
/-- what the heap says of a dict -/
theorem dkI_of (I : Inv X pins σ H s) {a : Addr} {ks : List (Key × V)} (r : Rd H a (.dK ks)) : (a == sysModules) = false ∧ ∃ va, KV ks va ∧ s.heap.DictOf (mixKind X.prog X.w) a va := by
  obtain ⟨z, sm, vs, rel, dd⟩ := (show ObjOk X.prog X.w H s.heap a (.dK ks) from r.ok I.hok)
  exact ⟨sm, vs, rel, dd⟩
theorem kv_nodup {ks : List (Key × V)} {va : List (Key × Value)} (r : KV ks va) (nd : (va.map (·.1)).Nodup) : (ks.map (·.1)).Nodup := by
  have e : ks.map (·.1) = va.map (·.1) := by
    unfold KV at r
    induction r with
    | nil => rfl
    | cons h _ ih =>
      rw [List.map_cons, List.map_cons, h.1, ih (List.nodup_cons.mp nd).2]
  rw [e]; exact nd
theorem valV_self : ∀ {ks : List (Key × V)}, (ks.map (·.1)).Nodup → ∀ p ∈ ks, valV ks p.1 = some p.2 := by
  intro ks nd p hp
  unfold valV
  induction ks with
  | nil => cases hp
  | cons q ks ih =>
    rw [List.map_cons, List.nodup_cons] at nd
    rw [List.find?_cons]
    rcases List.mem_cons.mp hp with rfl | hp
    · simp
    · have ne : q.1 ≠ p.1 := fun e => nd.1 (by rw [e]; exact List.mem_map_of_mem hp)
      rw [show decide (q.1 = p.1) = false from decide_eq_false ne]
      exact ih nd.2 hp
theorem hits_true {E : V → V → Bool → Prop} {ls ks : List (Key × V)} {r : Bool} (h : HitsV E ls ks r) (f : ∀ p ∈ ks, valV ls p.1 = some p.2) (g : ∀ p ∈ ks, ∀ b, E p.2 p.2 b → b = true) : r = true := by
  induction h with
  | nil => rfl
  | @miss k v r hn =>
    have := f (k, v) List.mem_cons_self
    rw [hn] at this; cases this
  | @hit k v y r e b hy he _ ih =>
    have e1 := f (k, v) List.mem_cons_self
    rw [hy] at e1; cases e1
    rw [g (k, v) List.mem_cons_self e he, ih (fun p m => f p (List.mem_cons_of_mem _ m)) (fun p m => g p (List.mem_cons_of_mem _ m))]
    rfl
theorem allV_true {E : V → V → Bool → Prop} {xs ys : List V} {bs : List Bool} (h : AllV E xs ys bs) : ∀ {us : List Value}, Vals xs us → Vals ys us → (∀ x y u b, E x y b → RelV x u → RelV y u → b = true) → bs.all id = true := by
  induction h with
  | nil => intros; rfl
  | cons e _ ih =>
    intro us r1 r2 g
    cases r1 with
    | cons a1 b1 =>
      cases r2 with
      | cons a2 b2 =>
        rw [List.all_cons, g _ _ _ _ e a1 a2, ih b1 b2 g]
        rfl
theorem list_uniq {h : Heap} {a : Addr} {us ws : Array Value} (p : h.IsList a us) (q : h.IsList a ws) : us = ws := by
  obtain ⟨o, h1, _, n, h2⟩ := p
  obtain ⟨o', h1', _, n', h2'⟩ := q
  rw [h1] at h1'; cases h1'
  rw [h2] at h2'; cases h2'
  rfl
theorem kv_rel {ks : List (Key × V)} {va : List (Key × Value)} (r : KV ks va) : ∀ p ∈ ks, ∃ u, RelV p.2 u := by
  unfold KV at r
  induction r with
  | nil => intro p m; cases m
  | @cons p q _ _ h _ ih =>
    intro p' m
    rcases List.mem_cons.mp m with rfl | m
    · exact ⟨_, h.2⟩
    · exact ih p' m
theorem SqL.noDct {K : PySem.W.Frag} (I : Inv X pins σ H s) (hK : K = X.K) {a : Addr} {xs : List V} (q : SqL K H a xs) : ∃ us, Vals xs us ∧ s.heap.IsList a us.toArray := by
  subst hK
  obtain ⟨us, r1, p1, _⟩ := I.list q
  exact ⟨us, r1, p1.isList⟩
theorem eqB_diag (I : Inv X pins σ H s) : ∀ (n : Nat) (x y : V) (u : Value) (b : Bool), EqB X.K H n x y b → RelV x u → RelV y u → b = true
  | 0, _, _, _, _, h, _, _ => (show False from h).elim
  | n + 1, x, y, u, b, h, rx, ry => by
    rcases h with ⟨d, e, hd, he, cd, ce, dm, rfl⟩ | h
    · obtain ⟨as, r1⟩ := Dp.reads I d x u hd rx
      obtain ⟨bs, r2⟩ := Dp.reads I e y u he ry
      obtain rfl := SeqAt.Reads.unique d e u as bs cd r1 r2
      exact SeqAt.eqv_refl d cd
    · cases h with
      | @dct a a' ks ls r p q hits hl =>
        cases (show u = Value.ref a from rx)
        cases (show Value.ref a = Value.ref a' from ry)
        have e := Rd.uniq p q (fun _ _ => by rintro ⟨⟩) (fun _ _ => by rintro ⟨⟩)
        cases e
        obtain ⟨_, va, rv, dd⟩ := dkI_of I p
        obtain ⟨_, _, _, _, _, _, _, _, nd⟩ := dd
        refine hits_true hits (valV_self (kv_nodup rv nd)) fun p' m b' hb => ?_
        obtain ⟨u', ru⟩ := kv_rel rv p' m
        exact eqB_diag I n _ _ u' b' hb ru ru
      | @dcl a a' ks ls p q hl =>
        cases (show u = Value.ref a from rx)
        cases (show Value.ref a = Value.ref a' from ry)
        have e := Rd.uniq p q (fun _ _ => by rintro ⟨⟩) (fun _ _ => by rintro ⟨⟩)
        cases e
        exact absurd rfl hl
      | @lst a a' xs ys bs p q hall =>
        cases (show u = Value.ref a from rx)
        cases (show Value.ref a = Value.ref a' from ry)
        obtain ⟨us, r1, l1⟩ := SqL.noDct I rfl p
        obtain ⟨ws, r2, l2⟩ := SqL.noDct I rfl q
        have e := congrArg Array.toList (list_uniq l1 l2)
        simp only [] at e
        subst e
        exact allV_true hall r1 r2 fun x y u b he a1 a2 => eqB_diag I n x y u b he a1 a2
      | @lsl a a' xs ys p q hl =>
        cases (show u = Value.ref a from rx)
        cases (show Value.ref a = Value.ref a' from ry)
        obtain ⟨us, r1, l1⟩ := SqL.noDct I rfl p
        obtain ⟨ws, r2, l2⟩ := SqL.noDct I rfl q
        have e := congrArg Array.toList (list_uniq l1 l2)
        simp only [] at e
        subst e
        exact absurd (by rw [r1.length, r2.length]) hl
theorem hitsV_run {P : Program} {w : World} {A : Around} {s : Shared} {F : V → V → Bool → Prop} (ih : ∀ x y b v u, F x y b → RelV x v → RelV y u → SeqAt.EqP P w A s v u b) {ls : List (Key × V)} {vb : List (Key × Value)} (rb : KV ls vb) {ks : List (Key × V)} {r : Bool} (hh : HitsV F ls ks r) :
    ∀ {va : List (Key × Value)}, KV ks va → PySem.W.KeqHitsP P w A s vb va r := by
  induction hh with
  | nil => intro va ra; cases ra; exact .nil
  | @miss k v r hn =>
    intro va ra
    cases ra with
    | @cons p q _ _ h t =>
      obtain ⟨h1, h2⟩ := h
      obtain ⟨key, z⟩ := q
      cases (show k = key from h1)
      have rr : RelO none (valueAt vb k) := by rw [← hn]; exact rb.val k
      refine .miss ?_
      cases e : valueAt vb k with
      | none => rfl
      | some z => rw [e] at rr; exact absurd rr (by rintro ⟨⟩)
  | @hit k v y r e b hy he _ ihh =>
    intro va ra
    cases ra with
    | @cons p q _ _ h t =>
      obtain ⟨h1, h2⟩ := h
      obtain ⟨key, z⟩ := q
      cases (show k = key from h1)
      have rr : RelO (some y) (valueAt vb k) := by rw [← hy]; exact rb.val k
      obtain ⟨yv, hyv, ry⟩ := rr.some_of
      exact .hit hyv (ih _ _ _ _ _ he h2 ry) (ihh t)
theorem allV_run {P : Program} {w : World} {A : Around} {s : Shared} {F : V → V → Bool → Prop} (ih : ∀ x y b v u, F x y b → RelV x v → RelV y u → SeqAt.EqP P w A s v u b) {xs ys : List V} {bs : List Bool} (h : AllV F xs ys bs) :
    ∀ {us ws : List Value}, Vals xs us → Vals ys ws → ∀ j (h1 : j < us.length) (h2 : j < ws.length), SeqAt.EqP P w A s us[j] ws[j] (bs.getD j true) := by
  induction h with
  | nil =>
    intro us ws r1 r2 j h1 h2
    cases r1
    exact absurd h1 (Nat.not_lt_zero j)
  | cons h _ k =>
    intro us ws r1 r2 j h1 h2
    cases r1 with
    | cons a1 b1 =>
      cases r2 with
      | cons a2 b2 =>
        cases j with
        | zero => exact ih _ _ _ _ _ h a1 a2
        | succ j => exact k b1 b2 j (Nat.lt_of_succ_lt_succ h1) (Nat.lt_of_succ_lt_succ h2)
theorem all_getD : ∀ (bs : List Bool), ((List.range bs.length).all fun j => bs.getD j true) = bs.all id
  | [] => rfl
  | b :: bs => by
    rw [List.length_cons, List.range_succ_eq_map, List.all_cons, List.all_map, List.all_cons, ← all_getD bs]
    rfl
theorem eqBR_run (I : Inv X pins σ H s) {A : Around} {F : V → V → Bool → Prop} (hu : A.units < cLine) (ih : ∀ x y b v u, F x y b → RelV x v → RelV y u → SeqAt.EqP X.prog X.w A.in1 s v u b) {x y : V} {v u : Value} {b : Bool} (h : EqBR X.K H F x y b) (rx : RelV x v) (ry : RelV y u)
    (E Q : Value → Shared → Prop) (q : Q (.bool b) s) : wpAny (model X.prog X.w) A (richCompare .Eq v u) Q E s := by
  cases h with
  | @dct a a' ks ls r ha hb hits hl =>
    cases (show v = Value.ref a from rx)
    cases (show u = Value.ref a' from ry)
    obtain ⟨ya, va, ra, da⟩ := dkI_of I ha
    obtain ⟨yb, vb, rb, db⟩ := dkI_of I hb
    refine PySem.W.rcP_dicts (knd := mixKind X.prog X.w) (r := b) ya yb da db hu (fun _ => hitsV_run ih rb hits ra) E Q ?_
    have e : va.length = vb.length := by rw [← ra.length, ← rb.length]; exact hl
    rw [show (va.length == vb.length && b) = b from by rw [e]; simp]
    exact q
  | @dcl a a' ks ls ha hb hl =>
    cases (show v = Value.ref a from rx)
    cases (show u = Value.ref a' from ry)
    obtain ⟨ya, va, ra, da⟩ := dkI_of I ha
    obtain ⟨yb, vb, rb, db⟩ := dkI_of I hb
    have e : va.length ≠ vb.length := by rw [← ra.length, ← rb.length]; exact hl
    refine PySem.W.rcP_dicts (knd := mixKind X.prog X.w) (r := false) ya yb da db hu (fun z => absurd z e) E Q ?_
    simpa using q
  | @lst a a' xs ys bs ha hb hp =>
    cases (show v = Value.ref a from rx)
    cases (show u = Value.ref a' from ry)
    obtain ⟨us, r1, p1, _⟩ := I.list ha
    obtain ⟨ws, r2, p2, _⟩ := I.list hb
    have hsz : us.toArray.size = ws.toArray.size := by
      rw [List.size_toArray, List.size_toArray, ← r1.length, ← r2.length]
      exact hp.length.1
    refine SeqAt.rcP_lists (e := fun j => bs.getD j true) p1.isList p2.isList hsz hu (fun j h1 h2 => ?_) E Q ?_
    · have k := allV_run ih hp r1 r2 j (by simpa using h1) (by simpa using h2)
      simpa using k
    · have el : us.toArray.size = bs.length := by rw [List.size_toArray, ← r1.length]; exact hp.length.2.symm
      rw [el, all_getD]
      exact q
  | @lsl a a' xs ys ha hb hl =>
    cases (show v = Value.ref a from rx)
    cases (show u = Value.ref a' from ry)
    obtain ⟨us, r1, p1, _⟩ := I.list ha
    obtain ⟨ws, r2, p2, _⟩ := I.list hb
    have hsz : (us.toArray.size != ws.toArray.size) = true := by
      rw [List.size_toArray, List.size_toArray, ← r1.length, ← r2.length]
      simpa using hl
    exact SeqAt.RcAt.lists_lengths p1.isList p2.isList hsz hu X.prog X.w E Q q
theorem eqB_run (I : Inv X pins σ H s) : ∀ (n : Nat) (A : Around), A.units + n + 32 < cLine → ∀ (x y : V) (b : Bool) (v u : Value), EqB X.K H n x y b → RelV x v → RelV y u → SeqAt.EqP X.prog X.w A s v u b
  | 0, _, _, _, _, _, _, _, h, _, _ => (show False from h).elim
  | n + 1, A, hu, x, y, b, v, u, h, rx, ry => by
    have h0 := h
    rcases h with ⟨d, e, hd, he, cd, ce, dm, rfl⟩ | h
    · obtain ⟨as, r1⟩ := Dp.reads I d x v hd rx
      obtain ⟨bs, r2⟩ := Dp.reads I e y u he ry
      exact (SeqAt.eqAt_reads d e A s v u as bs r1 r2 cd ce (by omega)).eqP
    · have step := eqBR_run I (A := A) (by omega) (eqB_run I n A.in1 (by show A.units + 1 + n + 32 < cLine; omega)) h rx ry
      obtain ⟨a, a', rfl, rfl⟩ : ∃ a a', x = .ref a ∧ y = .ref a' := by cases h <;> exact ⟨_, _, rfl, rfl⟩
      cases (show v = Value.ref a from rx)
      cases (show u = Value.ref a' from ry)
      by_cases e : a = a'
      · subst e
        have eb := eqB_diag I (n + 1) _ _ (.ref a) b h0 rfl rfl
        subst eb
        exact (SeqAt.EqAt.same _).eqP
      · exact SeqAt.eqP_refs e step
end
section
variable {X : Cx}
def rEqB (K : PySem.W.Frag) : R2 := fun x y H Q => ∃ n b, n ≤ 24 ∧ EqBR K H (EqB K H n) x y b ∧ Q (.bl b) H
theorem op_eqB (hu : X.A.units + 64 < cLine) : OpR X (compareOp .Eq) (rEqB X.K) := by
  intro pins s σ H x y v u Q I rx ry h
  obtain ⟨n, b, hn, h, q⟩ := h
  exact eqBR_run I (A := X.A) (by omega) (eqB_run I n X.A.in1 (by show X.A.units + 1 + n + 32 < cLine; omega)) h rx ry _ _ ⟨.bl b, H, I, rfl, q⟩
theorem mono_eqB : ∀ x y H (Q Q' : VK), (∀ v H, Q v H → Q' v H) → rEqB X.K x y H Q → rEqB X.K x y H Q' := fun _ _ _ _ _ i ⟨n, b, h1, h2, q⟩ => ⟨n, b, h1, h2, i _ _ q⟩
end
end L2
namespace DD
open PySem PySem.Spec L2 RZ PySem.W
def lqOf (h : Hd) : D → Option (List D)
  | .rol xs => some xs
  | d => lstOf h d
theorem lqOf_ok {c : Ct} {w : Wd} {h : Hd} {H : Hp} {d : D} {v : V} {xs : List D} (s : SR c w h H) (r : VR c w d v) (e : lqOf h d = some xs) : ∃ a vs, v = .ref a ∧ SqL c.K H a vs ∧ VRs c w xs vs := by
  unfold lqOf at e
  split at e
  · rename_i ys
    cases e
    simp only [VR] at r
    obtain ⟨a, vs, rfl, q, z⟩ := r
    exact ⟨a, vs, rfl, SqL_le s.F q, z⟩
  · obtain ⟨a, vs, rfl, q, z⟩ := lstOf_ok s r e
    exact ⟨a, vs, rfl, SqL.of q, z⟩
def hitsF (f : D → D → Option Bool) (ls vs : List D) : List D → List D → Option Bool
  | k :: ks, u :: us => match keyD k with
    | none => none
    | some kk => match valD ls vs kk with
      | none => some false
      | some v => match f u v, hitsF f ls vs ks us with
        | some e, some b => some (e && b)
        | _, _ => none
  | [], [] => some true
  | _, _ => none
def allVF (f : D → D → Option Bool) : List D → List D → Option Bool
  | x :: xs, y :: ys => match f x y, allVF f xs ys with
    | some e, some b => some (e && b)
    | _, _ => none
  | [], [] => some true
  | _, _ => none
/-- the pure part -/
def pqF (h : Hd) (d e : D) : Option Bool := (pyO h d).bind fun a => (pyO h e).bind fun b => if a.canLay0 && b.canLay0 && decide (min a.depth b.depth ≤ 32) then some (PyData.eqv a b) else none
/-- two dicts or two lists -/
def nqF (f : D → D → Option Bool) (h : Hd) (d e : D) : Option Bool := match dctOf h d, dctOf h e with
  | some (ks, us), some (ls, vs) => if ks.length = ls.length then hitsF f ls vs ks us else some false
  | _, _ => match lqOf h d, lqOf h e with
    | some xs, some ys => if xs.length = ys.length then allVF f xs ys else some false
    | _, _ => none
def dqF : Nat → Hd → D → D → Option Bool
  | 0, _, _, _ => none
  | n + 1, h, d, e => match pqF h d e with
    | some b => some b
    | none => nqF (dqF n h) h d e
section
variable {c : Ct} {w : Wd} {h : Hd} {H : Hp}
theorem pqF_ok {x y : V} {d e : D} {b : Bool} (s : SR c w h H) (rx : VR c w d x) (ry : VR c w e y) (q : pqF h d e = some b) : ∃ d e, Dp c.K H x d ∧ Dp c.K H y e ∧ d.canLay0 = true ∧ e.canLay0 = true ∧ min d.depth e.depth ≤ 32 ∧ PyData.eqv d e = b := by
  unfold pqF at q
  rw [Option.bind_eq_some_iff] at q
  obtain ⟨a, ea, q⟩ := q
  rw [Option.bind_eq_some_iff] at q
  obtain ⟨b', eb, q⟩ := q
  split at q
  · rename_i hc
    simp only [Bool.and_eq_true, decide_eq_true_eq] at hc
    cases q
    exact ⟨a, b', pyO_ok s rx ea, pyO_ok s ry eb, hc.1.1, hc.1.2, hc.2, rfl⟩
  · cases q
theorem hitsF_ok {f : D → D → Option Bool} {E : V → V → Bool → Prop} (ih : ∀ {d e : D} {x y : V} {b : Bool}, VR c w d x → VR c w e y → f d e = some b → E x y b) {ls vs : List D} {lv : List (Key × V)} (kl : ls.map keyD = lv.map (fun p => some p.1)) (zl : VRs c w vs (lv.map (·.2))) :
    ∀ {ks us : List D} {kv : List (Key × V)} {b : Bool}, ks.map keyD = kv.map (fun p => some p.1) → VRs c w us (kv.map (·.2)) → hitsF f ls vs ks us = some b → HitsV E lv kv b
  | [], [], [], b, _, z, q => by
    simp only [hitsF, Option.some.injEq] at q
    subst q
    exact .nil
  | [], _ :: _, [], b, _, z, q => by simp [hitsF] at q
  | [], us, _ :: _, b, e, _, _ => by simp at e
  | _ :: _, us, [], b, e, _, _ => by simp at e
  | k :: ks, [], p :: kv, b, e, z, q => by simp [hitsF] at q
  | k :: ks, u :: us, p :: kv, b, e, z, q => by
    simp only [List.map_cons, List.cons.injEq] at e
    simp only [VRs, List.map_cons, List.cons.injEq] at z
    obtain ⟨v, r2, ⟨rfl, rfl⟩, rv, rr⟩ := z
    obtain ⟨pk, pv⟩ := p
    simp only at e rv
    simp only [hitsF, e.1] at q
    have g := valG_ok (f := keyD) (k := pk) kl zl
    split at q
    · rename_i hn
      cases q
      exact .miss (g.2 hn)
    · rename_i y hy
      obtain ⟨yv, hyv, ry⟩ := g.1 _ hy
      split at q
      · rename_i e1 b1 h1 h2
        cases q
        exact .hit hyv (ih rv ry h1) (hitsF_ok ih kl zl e.2 rr h2)
      · cases q
theorem allVF_ok {f : D → D → Option Bool} {E : V → V → Bool → Prop} (ih : ∀ {d e : D} {x y : V} {b : Bool}, VR c w d x → VR c w e y → f d e = some b → E x y b) :
    ∀ {xs ys : List D} {us vs : List V} {b : Bool}, VRs c w xs us → VRs c w ys vs → allVF f xs ys = some b → ∃ bs, AllV E us vs bs ∧ b = bs.all id
  | [], [], us, vs, b, r1, r2, q => by
    simp only [VRs] at r1 r2
    subst r1 r2
    simp only [allVF, Option.some.injEq] at q
    subst q
    exact ⟨[], .nil, rfl⟩
  | [], _ :: _, us, vs, b, _, _, q => by simp [allVF] at q
  | _ :: _, [], us, vs, b, _, _, q => by simp [allVF] at q
  | x :: xs, y :: ys, us, vs, b, r1, r2, q => by
    simp only [VRs] at r1 r2
    obtain ⟨v1, t1, rfl, a1, z1⟩ := r1
    obtain ⟨v2, t2, rfl, a2, z2⟩ := r2
    simp only [allVF] at q
    split at q
    · rename_i e1 b1 h1 h2
      cases q
      obtain ⟨bs, hb, rfl⟩ := allVF_ok ih z1 z2 h2
      exact ⟨e1 :: bs, .cons (ih a1 a2 h1) hb, rfl⟩
    · cases q
theorem vrs_len {ds : List D} {vs : List V} (r : VRs c w ds vs) : vs.length = ds.length := by
  induction ds generalizing vs with
  | nil => simp only [VRs] at r; subst r; rfl
  | cons d ds ih =>
    simp only [VRs] at r
    obtain ⟨v, t, rfl, _, z⟩ := r
    simp [ih z]
theorem nqF_ok {f : D → D → Option Bool} {E : V → V → Bool → Prop} (s : SR c w h H) (ih : ∀ {d e : D} {x y : V} {b : Bool}, VR c w d x → VR c w e y → f d e = some b → E x y b) {d e : D} {x y : V} {b : Bool} (rx : VR c w d x) (ry : VR c w e y) (q : nqF f h d e = some b) : EqBR c.K H E x y b := by
  unfold nqF at q
  split at q
  · rename_i ks us ls vs e1 e2
    obtain ⟨a, kv, rfl, p1, k1, z1⟩ := dctOf_ok s rx e1
    obtain ⟨a', lv, rfl, p2, k2, z2⟩ := dctOf_ok s ry e2
    have l1 : ks.length = kv.length := by simpa using congrArg List.length k1
    have l2 : ls.length = lv.length := by simpa using congrArg List.length k2
    split at q
    · rename_i hl
      exact .dct p1 p2 (hitsF_ok ih k2 z2 k1 z1 q) (by rw [← l1, ← l2]; exact hl)
    · rename_i hl
      cases q
      exact .dcl p1 p2 (by rw [← l1, ← l2]; exact hl)
  · split at q
    · rename_i xs ys e1 e2
      obtain ⟨a, us, rfl, p1, z1⟩ := lqOf_ok s rx e1
      obtain ⟨a', vs, rfl, p2, z2⟩ := lqOf_ok s ry e2
      have l1 := vrs_len z1
      have l2 := vrs_len z2
      split at q
      · obtain ⟨bs, hb, rfl⟩ := allVF_ok ih z1 z2 q
        exact .lst p1 p2 hb
      · rename_i hl
        cases q
        exact .lsl p1 p2 (by rw [l1, l2]; exact hl)
    · cases q
theorem dqF_ok (s : SR c w h H) : ∀ (n : Nat) {d e : D} {x y : V} {b : Bool}, VR c w d x → VR c w e y → dqF n h d e = some b → EqB c.K H n x y b
  | 0, _, _, _, _, _, _, _, q => by simp [dqF] at q
  | n + 1, d, e, x, y, b, rx, ry, q => by
    unfold dqF at q
    split at q
    · rename_i b' hb
      cases q
      exact .inl (pqF_ok s rx ry hb)
    · exact .inr (nqF_ok s (fun rx ry q => dqF_ok s n rx ry q) rx ry q)
end
/-- d == e, two dicts or two lists, down to depth 20 -/
def cEqD (d e : D) (h : Hd) : Res Bool := optR (nqF (dqF 20 h) h d e) h
theorem s_eqD {c : Ct} : OpB c (rEqB c.K) cEqD := fun {w W σ h H x y dx dy Q} s rx ry p => by
  obtain ⟨b, eb, p⟩ := optR_post p
  exact ⟨20, b, by decide, nqF_ok s (fun rx ry q => dqF_ok s 20 rx ry q) rx ry eb, b, rfl, p.ret rfl s⟩
section
variable {X : Cx} {W : WX} {a b : Expr} {ma mb : ME} {pos : Pos} {k : Nat}
theorem e_eqD (hr : Room k X.A) (ha : SE X W a ma) (hb : SE X W b mb) : SE X W (.Compare a [.Eq] [b] pos) (mB (mCmp cEqD ma mb)) := e_cmp mono_eqB (op_eqB (hu64 hr)) s_eqD ha hb (nomark _)
end
@[simp] theorem cEqD_k (d e : D) (h : Hd) : cEqD d e h = optR (nqF (dqF 20 h) h d e) h := rfl
def eqOF (cn : Str) (gD : List D → List D → List D) (m : List D → Hd → Res D) (neg : Bool) (x y : D) (h : Hd) : Res Bool := if (insOf h cn x).isSome && (insOf h cn y).isSome then (match m (gD [x, y] []) h with
  | .ok (.bl b) h => .ok (if neg then !b else b) h
  | _ => .bad) else .bad
/-- an own class without __ne__ whose own __eq__ this is -/
def NeV (K : PySem.W.Frag) (mg : Str → Option Value) (cn : Str) : Prop := ∃ C f, mg cn = some (.ref C) ∧ PySem.W.findIn K (.ref C) "__eq__" = some (some (.ref f)) ∧ neIn K C f = true
/-- what == needs -/
structure EqAt2 (X : Cx) (k : Nat) (cn : Str) (gD : List D → List D → List D) (m : List D → Hd → Res D) (neg : Bool) (r : R2) : Prop where
  run : OpR X (compareOp (if neg then .NotEq else .Eq)) r
  so : OpB (Cx.ct X) r (eqOF cn gD m neg)
  mono : ∀ x y H (Q Q' : VK), (∀ v H, Q v H → Q' v H) → r x y H Q → r x y H Q'
theorem eqO_ok {X : Cx} {k : Nat} {cn : Str} {gD : List D → List D → List D} {m : List D → Hd → Res D} (C : MthG X.prog X.w X.K X.mg X.base k cn "__eq__" 1 [] gD m) (hr : RoomG (k + 1) X.A) (neg : Bool) (hn : neg = true → NeV X.K X.mg cn) :
    ∃ r, EqAt2 X k cn gD m neg r := by
  obtain ⟨C, f, fd, ps, F, V, hm, ⟨g, gV, hb, rel⟩⟩ := C.ex
  have hx : ∀ σ, PassesAt (L2.CX X.prog X.w) X σ (fun _ _ _ => False) := fun σ pins H s e s' I c => by
    obtain ⟨_, _, _, _, _, _, _, _, _, _, _, _, hE⟩ := c
    exact hE.elim
  refine ⟨rEqO C (spM ⟨X.K, X.mg⟩ ps.length m) gV neg, ?_, ?_, ?_⟩
  · cases neg with
    | false => exact op_eqO F hm hr hb hx
    | true =>
      refine op_neO F hm hr hb hx ?_
      obtain ⟨C', f', h1, h2, h3⟩ := hn rfl
      rw [V.m] at h1; cases h1
      have := hm.at_
      rw [h2] at this
      cases this
      exact h3
  · intro w W σ h H x y dx dy Q s rx ry p
    unfold eqOF at p
    split at p
    · rename_i hi
      rw [Bool.and_eq_true] at hi
      obtain ⟨⟨ns, us⟩, ei⟩ := Option.isSome_iff_exists.mp hi.1
      obtain ⟨⟨ns', us'⟩, ei'⟩ := Option.isSome_iff_exists.mp hi.2
      obtain ⟨a, C', da, fs, rfl, hcm, ha1, rfl, z, na⟩ := insOf_ok s rx ei
      obtain ⟨a', C2, da', fs', rfl, hcm2, ha2, rfl, z', na'⟩ := insOf_ok s ry ei'
      have hcm' : X.mg cn = some (.ref C') := hcm
      have hcm2' : X.mg cn = some (.ref C2) := hcm2
      rw [V.m] at hcm' hcm2'; cases hcm'; cases hcm2'
      obtain ⟨r1, l1⟩ := rel w [dx, dy] [] [.ref a, .ref a'] [] (.cons rx (.one ry)) .nil rfl rfl
      refine ⟨a, a', da, da', fs, fs', rfl, rfl, ha1, ha2, w, gD [dx, dy] [], _, r1, s, l1, ?_⟩
      cases q : m (gD [dx, dy] []) _ with
      | bad => rw [q] at p; exact p.elim
      | exc y h1 => rw [q] at p; exact p.elim
      | ok d h1 =>
        rw [q] at p
        intro v w2 H2 l rv2 s2
        cases d with
        | bl b =>
          simp only [VR] at rv2
          exact ⟨b, rv2, _, rfl, p _ w2 H2 l rfl s2⟩
        | _ => exact p.elim
    · exact p.elim
  · rintro x y H Q Q' i ⟨a, b, dx, dy, fs, gs, h1, h2, h3, h4, w⟩
    obtain ⟨w, ds, h, r, s, l, p⟩ := w
    exact ⟨a, b, dx, dy, fs, gs, h1, h2, h3, h4, w, ds, h, r, s, l, p.mono fun v H ⟨r, e, q⟩ => ⟨r, e, i _ _ q⟩⟩
section
variable {X : Cx} {W : WX} {a b : Expr} {ma mb : ME} {pos : Pos} {k : Nat} {cn : Str} {gD : List D → List D → List D} {m : List D → Hd → Res D}
theorem e_eqO (C : MthG X.prog X.w X.K X.mg X.base k cn "__eq__" 1 [] gD m) (hr : RoomG (k + 1) X.A) (ha : SE X W a ma) (hb : SE X W b mb) : SE X W (.Compare a [.Eq] [b] pos) (mB (mCmp (eqOF cn gD m false) ma mb)) := by
  obtain ⟨r, e⟩ := eqO_ok C hr false (fun z => nomatch z)
  exact e_cmp e.mono e.run e.so ha hb (nomark _)
theorem e_neO (C : MthG X.prog X.w X.K X.mg X.base k cn "__eq__" 1 [] gD m) (hn : NeV X.K X.mg cn) (hr : RoomG (k + 1) X.A) (ha : SE X W a ma) (hb : SE X W b mb) : SE X W (.Compare a [.NotEq] [b] pos) (mB (mCmp (eqOF cn gD m true) ma mb)) := by
  obtain ⟨r, e⟩ := eqO_ok C hr true (fun _ => hn)
  exact e_cmp e.mono e.run e.so ha hb (nomark _)
theorem t_neO (C : MthG X.prog X.w X.K X.mg X.base k cn "__eq__" 1 [] gD m) (hn : NeV X.K X.mg cn) (hr : RoomG (k + 1) X.A) (ha : SE X W a ma) (hb : SE X W b mb) : ST X W (.Compare a [.NotEq] [b] pos) (mCmp (eqOF cn gD m true) ma mb) := by
  obtain ⟨r, e⟩ := eqO_ok C hr true (fun _ => hn)
  exact t_cmp e.run e.so ha hb (nomark _)
end
/-- a class that isinstance may be asked of -/
structure IsiV (K : PySem.W.Frag) (mg : Str → Option Value) (cn : Str) (C : Addr) : Prop where
  v : ClsV K mg cn C
  ha : PySem.W.findIn K (.ref C) "__class__" = some (some (.builtin "object.__class__"))
  hn : PySem.W.specialIn K (.builtin "object.__class__") "__get__" = some (some (.builtin "getset_descriptor.__get__"))
  ht : PySem.W.takesIn K (.builtin "object.__class__") = some true
  hm : PySem.W.mroIn K C (.type "object") = some true
  hc : ((PySem.W.clsIn K C).isSome && PySem.W.typeIn K (.ref C) == some (.type "type")) = true
/-- isinstance(x, cn): an instance of it, or pure data -/
def isoF (cn : Str) : List D → Hd → Res O
  | [d, .glb x], h => if x = cn then (if (insOf h cn d).isSome then .ok (.val (.bl true)) h else match tyName h d with
    | some _ => .ok (.val (.bl false)) h
    | none => .bad) else .bad
  | _, _ => .bad
def isTyV : Value → Bool
  | .type _ => true
  | _ => false
theorem mro_types : ∀ t ∈ "NoneType" :: tyKnown, ((fastBuiltinMro t).elim false fun l => l.all isTyV) = true := by decide +kernel
theorem kit_own {K : PySem.W.Frag} {C : Addr} {t : String} (hc : ((PySem.W.clsIn K C).isSome && PySem.W.typeIn K (.ref C) == some (.type "type")) = true) (ht : t ∈ "NoneType" :: tyKnown) : PySem.W.kitOne K (.type t) (.ref C) = some false := by
  unfold PySem.W.kitOne
  rw [if_neg (by intro z; have := eq_of_beq z; cases this)]
  unfold PySem.W.kitCls
  simp only [hc, if_true]
  show (fastBuiltinMro t).map (·.contains (Value.ref C)) = some false
  have : ∀ t ∈ "NoneType" :: tyKnown, ∃ l, fastBuiltinMro t = some l ∧ ∀ v ∈ l, ∃ n, v = Value.type n := by
    intro t m
    have := mro_types t m
    cases e : fastBuiltinMro t with
    | none => rw [e] at this; cases this
    | some l =>
      rw [e] at this
      refine ⟨l, rfl, fun v hv => ?_⟩
      have g : isTyV v = true := List.all_eq_true.mp this v hv
      cases v <;> first | exact ⟨_, rfl⟩ | cases g
  obtain ⟨l, e, f⟩ := this t ht
  rw [e]
  show some (l.contains (Value.ref C)) = some false
  congr 1
  rw [List.contains_eq_any_beq, List.any_eq_false]
  intro v m z
  obtain ⟨n, rfl⟩ := f v m
  have := eq_of_beq z
  cases this
theorem s_iso {c : Ct} {cn : Str} {C : Addr} (I : IsiV c.K c.mg cn C) : CallS c (rIsi c.K) (isoF cn) := fun {w W σ h H vs ds Q} s r p => by
  unfold isoF at p
  split at p
  · rename_i d x h'
    split at p
    · rename_i ex
      subst ex
      obtain ⟨v, u, rfl, r1, r2⟩ := r.two_inv
      simp only [VR] at r2
      obtain ⟨b, rfl, hb⟩ := r2
      rw [I.v.m] at hb; cases hb
      split at p
      · rename_i hi
        obtain ⟨⟨ns, us⟩, ei⟩ := Option.isSome_iff_exists.mp hi
        obtain ⟨a, C', da, fs, rfl, hcm, ha1, rfl, z, na⟩ := insOf_ok s r1 ei
        rw [I.v.m] at hcm; cases hcm
        refine ⟨.ref a, .ref C, .ref C, .ref C, true, rfl, .own C, .base (.ins ha1 I.v.c I.ha I.hn I.ht I.hm), ?_, p.ret (by simp only [RO, VR]) s⟩
        unfold PySem.W.kitOne
        rw [if_pos (beq_self_eq_true _)]
      · split at p
        · rename_i t et
          obtain ⟨ht, tx⟩ := tyName_ok s r1 et
          exact ⟨v, .ref C, .type t, .ref C, false, rfl, .own C, tx, kit_own I.hc ht, p.ret (by simp only [RO, VR]) s⟩
        · exact p.elim
    · exact p.elim
  · exact p.elim
/-- the class itself, by its name -/
theorem e_cls {X : Cx} {W : WX} {cn : Str} {C : Addr} {pos : Pos} (V : ClsV X.K X.mg cn C) (hg : Gl X cn := by rfl) (hd : (cn == ("__debug__" : Str)) = false := by decide) : SE X W (.Name cn pos) (mC (.glb cn)) := e_glob (v := .ref C) V.m rfl (fun w => by simp only [VR]; exact ⟨C, rfl, V.m⟩) hg hd
end DD
namespace L2
open PySem PySem.Spec PyProof.Rows
def rReprO (C : Addr) (sp : Sp) (gV : List V → List V → List V) : List V → Hp → VK → Prop := fun xs H Q => ∃ a dx fs, xs = [.ref a] ∧ H a = some (.ins C dx fs) ∧ sp (gV [.ref a] []) H (fun v H' => ∃ x, v = .str x ∧ Q (.str x) H') (fun _ _ _ => False)
theorem cr_reprO {X : Cx} {C f : Addr} {fd : FuncData} {ps : List Str} {k : Nat} {sp : Sp} {CX : CXT} {g : List Value → List Value → List Value} {gV : List V → List V → List V} (F : FnG X.prog X.w X.K X.mg X.base CX k f fd ps sp) (hm : Meth X.K C "__repr__" f) (hr : RoomG (k + 1) X.A) (hb : KBn X.K fd ps 1 [] g gV)
    (hx : ∀ σ, PassesAt CX X σ (fun _ _ _ => False)) : CallR X (.builtin "repr") (rReprO C sp gV) := by
  intro pins s σ H xs us Q I r h
  obtain ⟨a, dx, fs, rfl, ha, want⟩ := h
  obtain ⟨u, rfl, ru⟩ := vals1 r
  obtain rfl : u = Value.ref a := ru
  obtain ⟨mA, J, _⟩ := ins_get I.hok ha
  obtain ⟨od, J, _⟩ := J.look
  refine Calls.call_function_entry PySem.F.kind_repr PySem.F.plain_repr PySem.F.entry_repr (PySem.F.args_repr1 _) ?_
  unfold Builtin.«repr»
  refine wpAny_bind (m := oneArg "repr" _) (wpAny_pure ?_)
  refine wpAny_bind (wpAny_cRoomFor (by show X.A.units + 1 < cLine; have := hr.r.un; omega) ?_)
  refine wpAny_bind (m := specialOf (.ref a) (PySem.Str.ofString "__repr__")) ?_
  unfold specialOf
  refine wpAny_bind (J.type.here ((PySem.W.looks_findIn I.kIn hm.at_).here ?_))
  show wpAny _ _ (if (some (Value.ref f)).isNone = true then _ else _) _ _ _
  rw [if_neg (by simp)]
  have bt := hb.to s [Value.ref a] [] I.kIn rfl rfl
  refine wpAny_bind (m := callSpecialIfBound? (.ref a) (PySem.Str.ofString "__repr__") []) (PySem.W.ifBound_K I.kIn J hm.at_ hm.fn (wpAny_call (codeAny_mono (F.run X.A.in1 X.stack s H ⟨[Value.ref a], []⟩ (g [Value.ref a] []) (gV [V.ref a] []) _ (fun _ _ _ => False) hr.in1 ⟨I.env0.frames, I.env0.mod, I.env0.bs, I.env0.bsz, I.env0.funs, I.env0.frf, I.env0.hok, I.env0.bare⟩ (by simpa using bt) (hb.rel (.cons rfl .nil) .nil) want) fun res s2 hres => ?_)))
  match res, hres with
  | .error er, hres => exact hx σ pins H s er s2 I hres
  | .ok (.ret u), hres =>
    obtain ⟨v, H3, J2, ru, x, ev, q⟩ := I.after hres
    subst ev
    obtain ⟨t, rfl⟩ := ru
    refine wpAny_bind (wpAny_isInstance (typeIs_str _ _ _) isSubtype_str_str ?_)
    first
      | exact wpAny_pure ⟨_, rfl, .str x, H3, J2, ⟨_, rfl⟩, q⟩
      | (rw [if_pos rfl]; exact wpAny_pure ⟨_, rfl, .str x, H3, J2, ⟨_, rfl⟩, q⟩)
  | .ok .next, hres => exact hres.elim
  | .ok .brk, hres => exact hres.elim
  | .ok .cont, hres => exact hres.elim
end L2
namespace DD
open PySem PySem.Spec L2 RZ
def reprOF (cn : Str) (gD : List D → List D → List D) (m : List D → Hd → Res D) : List D → Hd → Res O
  | [x], h => if (insOf h cn x).isSome then (match m (gD [x] []) h with
    | .ok (.str x) h => .ok (.val (.str x)) h
    | _ => .bad) else .bad
  | _, _ => .bad
theorem reprO_ok {X : Cx} {k : Nat} {cn : Str} {gD : List D → List D → List D} {m : List D → Hd → Res D} (C : MthG X.prog X.w X.K X.mg X.base k cn "__repr__" 0 [] gD m) (hr : RoomG (k + 1) X.A) :
    ∃ r, CallR X (.builtin "repr") r ∧ CallS (Cx.ct X) r (reprOF cn gD m) := by
  obtain ⟨C, f, fd, ps, F, V, hm, ⟨g, gV, hb, rel⟩⟩ := C.ex
  refine ⟨_, cr_reprO F hm hr hb fun σ pins H s e s' I c => ?_, fun {w W σ h H vs ds Q} s r p => ?_⟩
  · obtain ⟨_, _, _, _, _, _, _, _, _, _, _, _, hE⟩ := c
    exact hE.elim
  · unfold reprOF at p
    split at p
    · rename_i h' x
      split at p
      · rename_i hi
        obtain ⟨v, rfl, rv⟩ := r.one_inv
        obtain ⟨⟨ns, us⟩, ei⟩ := Option.isSome_iff_exists.mp hi
        obtain ⟨a, C', da, fs, rfl, hcm, ha1, rfl, z, na⟩ := insOf_ok s rv ei
        have hcm' : X.mg cn = some (.ref C') := hcm
        rw [V.m] at hcm'; cases hcm'
        obtain ⟨r1, l1⟩ := rel w [x] [] [.ref a] [] (.one rv) .nil rfl rfl
        refine ⟨a, da, fs, rfl, ha1, w, gD [x] [], _, r1, s, l1, ?_⟩
        cases q : m (gD [x] []) _ with
        | bad => rw [q] at p; exact p.elim
        | exc y h1 => rw [q] at p; exact p.elim
        | ok d h1 =>
          rw [q] at p
          intro v w2 H2 l rv2 s2
          cases d with
          | str x =>
            simp only [VR] at rv2
            exact ⟨x, rv2, p _ w2 H2 l (by simp only [RO, VR]) s2⟩
          | _ => exact p.elim
      · exact p.elim
    · exact p.elim
/-- repr(o), o an instance of the class -/
theorem e_reprO {X : Cx} {W : WX} {e : Expr} {es : List Expr} {mas : MA} {p pos : Pos} {k : Nat} {cn : Str} {gD : List D → List D → List D} {m : List D → Hd → Res D} (C : MthG X.prog X.w X.K X.mg X.base k cn "__repr__" 0 [] gD m) (hr : RoomG (k + 1) X.A)
    (hm : X.mg "repr" = none) (hv : bootBuiltins "repr" = some (.builtin "repr")) (ha : SA X W (e :: es) mas) (hg : Gl X "repr" := by rfl)
    (he : starEach (e :: es) X.env = (false, eval e X.env) :: starEach es X.env := by rfl) (hpl : (backTo pos (starEach es X.env)).any (·.1) = false := by rfl) : SO X W (.Call (.Name "repr" p) (e :: es) [] pos) (mBi (reprOF cn gD m) mas) := by
  obtain ⟨r, c1, c2⟩ := reprO_ok C hr
  exact e_bi c1 c2 hm hv ha hg (by decide) (by decide) he hpl
end DD
namespace Law
open PySem PySem.Spec L2 RZ DD
section
variable {P : Program} {w : World} {K : PySem.W.Frag} {mg : Str → Option Value} {base : Heap}
def topS (i : Nat) : Stmt := PySem.Challenge.pw_standwrit_k25_tables_begun.main.body.getD i (.Pass ⟨0, 0, 0, 0⟩)
def k_LETTERS : Str := "abcdefghijklmnopqrstuvwxyz"
def k_PLACES : D := .ktp [.str "board", .str "heap", .str "aside"]
def kd_ACTS : List (Str × D) := [("strike", .str "ok"), ("mark", .str "ok"), ("go", .str "o"), ("last", .str "cg")]
def kd_CHANGES : List (Str × D) := [("copy", .str "t"), ("hand", .str "h"), ("ours", .str ""), ("read", .str "ww"), ("be", .str "l"), ("also", .str "w"), ("hue", .str "l"), ("tint", .str "w"), ("gain", .str "x"), ("bare", .str ""), ("size", .str "nn"), ("more", .str "nn"), ("each", .str "cnn"), ("turn", .str "")]
def kd_CONDITIONS : List (Str × D) := [("any", .str ""), ("self", .str ""), ("other", .str ""), ("mine", .str ""), ("kind", .str "w"), ("colour", .str "w"), ("least", .str "n"), ("not", .str "c"), ("both", .str "cc"), ("either", .str "cc")]
def kd_LAYER_OF : List (Str × D) := [("copy", .int (1)), ("hand", .int (2)), ("ours", .int (2)), ("read", .int (3)), ("be", .int (4)), ("also", .int (4)), ("hue", .int (5)), ("tint", .int (5)), ("gain", .int (6)), ("bare", .int (6)), ("size", .int (7)), ("more", .int (8)), ("each", .int (8)), ("turn", .int (9))]
def kd_LEAVES : List (Str × D) := [("go", .str "heap"), ("fall", .str "heap"), ("aside", .str "aside")]
def kd_LETS : List (Str × D) := [("go", .ktp [.str "none", .str "aside", .str "mark", .str "strike"]), ("fall", .ktp [.str "aside"]), ("strike", .ktp [.str "none", .str "twice", .str "less", .str "mark"]), ("mark", .ktp [.str "none", .str "twice", .str "less"])]
def kd_SIZES : List (Str × D) := [("come", .int (2)), ("go", .int (1)), ("strike", .int (2)), ("mark", .int (2)), ("last", .int (4)), ("round", .int (0))]
def kd_WAYS : List (Str × D) := [("none", .str ""), ("twice", .str ""), ("less", .str "k"), ("aside", .str ""), ("mark", .str "k"), ("strike", .str "k")]
def clA : List (Str × Str) := [("BadCard", "BadCard"), ("BadChange", "BadChange"), ("BadCondition", "BadCondition"), ("BadHand", "BadHand"), ("BadNumber", "BadNumber"), ("BadOrder", "BadOrder"), ("BadPlace", "BadPlace"), ("NothingLeft", "NothingLeft")]
structure Txt (K : PySem.W.Frag) (w : World) (mg : Str → Option Value) : Prop where
  ask : ∃ CM CS CN, mg "Missing" = some (.ref CM) ∧ mg "StandError" = some (.ref CS) ∧ mg "NothingLeft" = some (.ref CN) ∧ AskK K mg clA CM CS CN
  i_Sheet : ∃ C, IsiV K mg "Sheet" C
  i_Table : ∃ C, IsiV K mg "Table" C
  n_Table : NeV K mg "Table"
  k_Course : ClsN K mg "Course" ["begun", "lasts", "marks", "moments", "stand", "told_steps"]
  k_Run : ClsN K mg "Run" ["acts", "now", "order", "seen", "stack", "story"]
  k_Sheet : ClsN K mg "Sheet" ["stands", "steps_done", "waits_told"]
  k_Stand : ClsN K mg "Stand" ["came", "shown"]
  k_Table : ClsN K mg "Table" ["at_work", "kept", "later", "now", "past"]
  e_BadCard : ∃ C, ErrV K mg "BadCard" C
  e_BadChange : ∃ C, ErrV K mg "BadChange" C
  e_BadCondition : ∃ C, ErrV K mg "BadCondition" C
  e_BadHand : ∃ C, ErrV K mg "BadHand" C
  e_BadNumber : ∃ C, ErrV K mg "BadNumber" C
  e_BadOrder : ∃ C, ErrV K mg "BadOrder" C
  e_BadPlace : ∃ C, ErrV K mg "BadPlace" C
  e_NothingLeft : ∃ C, ErrI K mg "NothingLeft" C
  b_all : mg "all" = none
  b_any : mg "any" = none
  b_bool : mg "bool" = none
  b_dict : mg "dict" = none
  b_enumerate : mg "enumerate" = none
  b_int : mg "int" = none
  b_isinstance : mg "isinstance" = none
  b_len : mg "len" = none
  b_list : mg "list" = none
  b_range : mg "range" = none
  b_repr : mg "repr" = none
  b_set : mg "set" = none
  b_sorted : mg "sorted" = none
  b_str : mg "str" = none
  b_tuple : mg "tuple" = none
  b_zip : mg "zip" = none
  c_CAME : ∃ t, mg "CAME" = some (.int (10) t)
  c_LAYERS : ∃ t, mg "LAYERS" = some (.int (9) t)
  c_LETTERS : ∃ t, mg "LETTERS" = some (.str k_LETTERS t)
  c_LONGEST : ∃ t, mg "LONGEST" = some (.int (6) t)
  c_MARKED : ∃ t, mg "MARKED" = some (.int (8) t)
  c_MOST_CHANGES : ∃ t, mg "MOST_CHANGES" = some (.int (3) t)
  c_MOST_DEEP : ∃ t, mg "MOST_DEEP" = some (.int (4) t)
  c_MOST_HANDS : ∃ t, mg "MOST_HANDS" = some (.int (4) t)
  c_MOST_NUMBER : ∃ t, mg "MOST_NUMBER" = some (.int (99) t)
  c_MOST_ON_BOARD : ∃ t, mg "MOST_ON_BOARD" = some (.int (8) t)
  c_MOST_WORDS : ∃ t, mg "MOST_WORDS" = some (.int (4) t)
  c_MOST_WRITS : ∃ t, mg "MOST_WRITS" = some (.int (3) t)
  c_PLACES : KCon K mg "PLACES" k_PLACES
  c_ACTS : KDat K w mg "ACTS" kd_ACTS
  c_CHANGES : KDat K w mg "CHANGES" kd_CHANGES
  c_CONDITIONS : KDat K w mg "CONDITIONS" kd_CONDITIONS
  c_LAYER_OF : KDat K w mg "LAYER_OF" kd_LAYER_OF
  c_LEAVES : KDat K w mg "LEAVES" kd_LEAVES
  c_LETS : KDat K w mg "LETS" kd_LETS
  c_SIZES : KDat K w mg "SIZES" kd_SIZES
  c_WAYS : KDat K w mg "WAYS" kd_WAYS
abbrev stStand_m___init__ : Stmt := mthS (topS 20) 0
abbrev NStand_m___init__ : List Str := ["self", "looks", "came"]
theorem scStand_m___init__ : FnScope NStand_m___init__ ["self", "looks", "came"] (defScope stStand_m___init__) := ⟨rfl, rfl, rfl, by decide +kernel, rfl, by decide +kernel, by decide +kernel⟩
noncomputable def bStand_m___init__ : MS :=
    (mSeq (mFldS "Stand" "shown" (mVar 0) (mVar 1))
    (mFldS "Stand" "came" (mVar 0) (mVar 2)))
noncomputable def mStand_m___init__ : List D → Hd → Res D := runB 3 bStand_m___init__
theorem okStand_m___init__ (T : Txt K w mg) {f : Addr} {fd : FuncData} (FStand_m___init__ : DefX K mg "__init__" "Stand.__init__" stStand_m___init__ [] [] f fd)  : FnG P w K mg base (L2.CX P w) 1 f fd ["self", "looks", "came"] (spM ⟨K, mg⟩ (["self", "looks", "came"] : List Str).length mStand_m___init__) := (fn_okX FStand_m___init__ scStand_m___init__ fun cdv A outer s H E hr =>
    (s_cons (s_fld T.k_Stand.V T.k_Stand.na (e_var 0) (e_var 1))
    (s_one (s_fld T.k_Stand.V T.k_Stand.na (e_var 0) (e_var 2)))))
abbrev stfirst_look : Stmt := topS 21
abbrev Nfirst_look : List Str := ["number", "hand", "moment", "card", "kinds", "colours", "force", "guard", "writs", "named", "at", "writ"]
theorem scfirst_look : FnScope Nfirst_look ["number", "hand", "moment", "card"] (defScope stfirst_look) := ⟨rfl, rfl, rfl, by decide +kernel, rfl, by decide +kernel, by decide +kernel⟩
noncomputable def bfirst_look : MS :=
    (mSeq (mAsg (mVar 3) (gTupM 5 (gsCons (gSet 4) (gsCons (gSet 5) (gsCons (gSet 6) (gsCons (gSet 7) (gsCons (gSet 8) gsNil)))))))
    (mSeq (mSet 9 (mFz (mBi tupleF (aCons (mFz (mLc [10, 11] (mSrc enumF (aCons (mVar 8) aNil)) (gTupM 2 (gsCons (gSet 10) (gsCons (gSet 11) gsNil))) tYesM (mTup (aCons (mTup (aCons (mVar 2) (aCons (mVar 0) (aCons (mVar 10) aNil)))) (aCons (mVar 11) aNil))))) aNil))))
    (mRet (mFz (mDisp (pCons (mC (.str "hand")) (mVar 1) (pCons (mC (.str "kinds")) (mVar 4) (pCons (mC (.str "colours")) (mVar 5) (pCons (mC (.str "force")) (mVar 6) (pCons (mC (.str "guard")) (mVar 7) (pCons (mC (.str "writs")) (mVar 9) pNil)))))))))))
noncomputable def mfirst_look : List D → Hd → Res D := runB 12 bfirst_look
theorem okfirst_look (T : Txt K w mg) {f : Addr} {fd : FuncData} (Ffirst_look : DefX K mg "first_look" "first_look" stfirst_look [] [] f fd)  : FnG P w K mg base (L2.CX P w) 1 f fd ["number", "hand", "moment", "card"] (spM ⟨K, mg⟩ (["number", "hand", "moment", "card"] : List Str).length mfirst_look) := (fn_okX Ffirst_look scfirst_look fun cdv A outer s H E hr =>
    (s_cons (s_asg (e_var 3) (g_tup rfl (gs_cons (gn_name 4 scfirst_look.nd) (gs_cons (gn_name 5 scfirst_look.nd) (gs_cons (gn_name 6 scfirst_look.nd) (gs_cons (gn_name 7 scfirst_look.nd) (gs_cons (gn_name 8 scfirst_look.nd) gs_nil)))))))
    (s_cons (s_set 9 (SO.fz (e_bt call_tuple_of s_tuple T.b_tuple PyProof.Rows.boot_tuple (a_cons (SO.fz (e_lc rfl scfirst_look.nd (i_enum T.b_enumerate (a_cons (e_var 8) a_nil)) (blkOk_by (own := [("at", 10), ("writ", 11)]) (N := Nfirst_look) (sc := defScope stfirst_look) (by decide +kernel)) (fun _ _ _ _ _ => (g_tup rfl (gs_cons (gn_name 10 scfirst_look.nd) (gs_cons (gn_name 11 scfirst_look.nd) gs_nil)))) (fun _ _ _ _ _ => ts_nil) (fun _ _ _ _ _ => (e_tup (a_cons (e_tup (a_cons (e_var 2) (a_cons (e_var 0) (a_cons (e_var 10) a_nil)))) (a_cons (e_var 11) a_nil)))))) a_nil))) scfirst_look.nd)
    (s_one (s_ret (SO.fz (e_disp (sp_cons e_str (e_var 1) (sp_cons e_str (e_var 4) (sp_cons e_str (e_var 5) (sp_cons e_str (e_var 6) (sp_cons e_str (e_var 7) (sp_cons e_str (e_var 9) sp_nil)))))))))))))
abbrev stturned : Stmt := topS 22
abbrev Nturned : List Str := ["look", "name", "thing", "found"]
theorem scturned : FnScope Nturned ["look", "name", "thing"] (defScope stturned) := ⟨rfl, rfl, rfl, by decide +kernel, rfl, by decide +kernel, by decide +kernel⟩
noncomputable def bturned : MS :=
    (mSeq (mSet 3 (mOwn (mBi dictF (aCons (mVar 0) aNil))))
    (mSeq (mDPut (mVar 3) (mVar 1) (mVar 2))
    (mRet (mVar 3))))
noncomputable def mturned : List D → Hd → Res D := runB 4 bturned
theorem okturned (T : Txt K w mg) {f : Addr} {fd : FuncData} (Fturned : DefX K mg "turned" "turned" stturned [] [] f fd)  : FnG P w K mg base (L2.CX P w) 1 f fd ["look", "name", "thing"] (spM ⟨K, mg⟩ (["look", "name", "thing"] : List Str).length mturned) := (fn_okX Fturned scturned fun cdv A outer s H E hr =>
    (s_cons (s_set 3 (SO.own (e_bt call_dictD s_dict T.b_dict PyProof.Rows.boot_dict (a_cons (e_var 0) a_nil))) scturned.nd)
    (s_cons (s_dput hr.r (e_var 3) (e_var 1) (e_var 2))
    (s_one (s_ret (e_var 3))))))
abbrev stplain_look : Stmt := topS 27
abbrev Nplain_look : List Str := ["look", "name", "writ"]
theorem scplain_look : FnScope Nplain_look ["look"] (defScope stplain_look) := ⟨rfl, rfl, rfl, by decide +kernel, rfl, by decide +kernel, by decide +kernel⟩
noncomputable def bplain_look : MS :=
    (mRet (mCalG 3 0 (fun ds _ => ds) mturned (aCons (mVar 0) (aCons (mC (.str "writs")) (aCons (mOwn (mLc [1, 2] (mIterD (mIxD (mVar 0) (mC (.str "writs")))) (gTupM 2 (gsCons (gSet 1) (gsCons (gSet 2) gsNil))) tYesM (mVar 2))) aNil))) aNil))
noncomputable def mplain_look : List D → Hd → Res D := runB 3 bplain_look
theorem okplain_look (T : Txt K w mg) {f : Addr} {fd : FuncData} (Fplain_look : DefX K mg "plain_look" "plain_look" stplain_look [] [] f fd) (Cturned_3 : CalG P w K mg base 1 "turned" 3 [] (fun ds _ => ds) mturned) : FnG P w K mg base (L2.CX P w) 2 f fd ["look"] (spM ⟨K, mg⟩ (["look"] : List Str).length mplain_look) := (fn_okX Fplain_look scplain_look fun cdv A outer s H E hr =>
    (s_one (s_ret (e_calG Cturned_3 (hr.mono (by decide)) (takes_of rfl rfl rfl rfl) (a_cons (e_var 0) (a_cons e_str (a_cons (SO.own (e_lc rfl scplain_look.nd (i_anyD (e_ixD hr.r (e_var 0) e_str)) (blkOk_by (own := [("name", 1), ("writ", 2)]) (N := Nplain_look) (sc := defScope stplain_look) (by decide +kernel)) (fun _ _ _ _ _ => (g_tup rfl (gs_cons (gn_name 1 scplain_look.nd) (gs_cons (gn_name 2 scplain_look.nd) gs_nil)))) (fun _ _ _ _ _ => ts_nil) (fun _ _ _ _ _ => (e_var 2)))) a_nil))) k_nil))))
abbrev stis_number : Stmt := topS 50
abbrev Nis_number : List Str := ["thing", "low", "high"]
theorem scis_number : FnScope Nis_number ["thing", "low", "high"] (defScope stis_number) := ⟨rfl, rfl, rfl, by decide +kernel, rfl, by decide +kernel, by decide +kernel⟩
noncomputable def bis_number : MS :=
    (mRet (mAndV (mFz (mBi isiF (aCons (mVar 0) (aCons (mC (.ty "int")) aNil)))) (mAndV (mNotV (mFz (mBi isiF (aCons (mVar 0) (aCons (mC (.ty "bool")) aNil))))) (mB (mChain cLe cLe (mVar 1) (mVar 0) (mVar 2))))))
noncomputable def mis_number : List D → Hd → Res D := runB 3 bis_number
theorem okis_number (T : Txt K w mg) {f : Addr} {fd : FuncData} (Fis_number : DefX K mg "is_number" "is_number" stis_number [] [] f fd)  : FnG P w K mg base (L2.CX P w) 1 f fd ["thing", "low", "high"] (spM ⟨K, mg⟩ (["thing", "low", "high"] : List Str).length mis_number) := (fn_okX Fis_number scis_number fun cdv A outer s H E hr =>
    (s_one (s_ret (e_and (SO.fz (e_bi call_isiA s_isi T.b_isinstance PyProof.Rows.boot_isinstance (a_cons (e_var 0) (a_cons (e_ty T.b_int PyProof.Rows.boot_int) a_nil)))) (e_and (e_not (SO.fz (e_bi call_isiA s_isi T.b_isinstance PyProof.Rows.boot_isinstance (a_cons (e_var 0) (a_cons (e_ty T.b_bool PyProof.Rows.boot_bool) a_nil))))) (e_one (e_lele (e_var 1) (e_var 0) (e_var 2))))))))
abbrev stis_word : Stmt := topS 51
abbrev Nis_word : List Str := ["thing", "sign"]
theorem scis_word : FnScope Nis_word ["thing"] (defScope stis_word) := ⟨rfl, rfl, rfl, by decide +kernel, rfl, by decide +kernel, by decide +kernel⟩
noncomputable def bis_word : MS :=
    (mSeq (mIfS (mOr (mNot (mTru (mFz (mBi isiF (aCons (mVar 0) (aCons (mC (.ty "str")) aNil)))))) (mNot (mChain cLe cLe (mC (.int 1)) (mFz (mBi lenF (aCons (mVar 0) aNil))) (mC (.int (6)))))) (mRet (mC (.bl false))) mNil)
    (mRet (mFz (mBi allF (aCons (mFz (mLc [1] (mIterD (mVar 0)) (gSet 1) tYesM (mB (mCmp cIn (mVar 1) (mC (.str k_LETTERS)))))) aNil)))))
noncomputable def mis_word : List D → Hd → Res D := runB 2 bis_word
theorem okis_word (T : Txt K w mg) {f : Addr} {fd : FuncData} (Fis_word : DefX K mg "is_word" "is_word" stis_word [] [] f fd)  : FnG P w K mg base (L2.CX P w) 1 f fd ["thing"] (spM ⟨K, mg⟩ (["thing"] : List Str).length mis_word) := (fn_okX Fis_word scis_word fun cdv A outer s H E hr =>
    (s_cons (s_if (t_w (w_or (t_not (t_tru (SO.fz (e_bi call_isiA s_isi T.b_isinstance PyProof.Rows.boot_isinstance (a_cons (e_var 0) (a_cons (e_ty T.b_str PyProof.Rows.boot_str) a_nil)))))) (w_or1 (t_not (t_lele e_int (SO.fz (e_bi call_len s_len T.b_len PySem.boot_len (a_cons (e_var 0) a_nil))) (e_globI T.c_LONGEST)))))) (s_one (s_ret e_bl)) s_nil)
    (s_one (s_ret (SO.fz (e_bi (cr_all rfl) s_all T.b_all PyProof.Rows.boot_all (a_cons (SO.fz (e_lc rfl scis_word.nd (i_anyD (e_var 0)) (blkOk_by (own := [("sign", 1)]) (N := Nis_word) (sc := defScope stis_word) (by decide +kernel)) (fun _ _ _ _ _ => (g_name 1 scis_word.nd)) (fun _ _ _ _ _ => ts_nil) (fun _ _ _ _ _ => (e_in hr.r (e_var 1) (e_globS T.c_LETTERS))))) a_nil)))))))
abbrev stis_list : Stmt := topS 52
abbrev Nis_list : List Str := ["thing", "one", "other"]
theorem scis_list : FnScope Nis_list ["thing"] (defScope stis_list) := ⟨rfl, rfl, rfl, by decide +kernel, rfl, by decide +kernel, by decide +kernel⟩
noncomputable def bis_list : MS :=
    (mSeq (mIfS (mOr (mNot (mTru (mFz (mBi isiF (aCons (mVar 0) (aCons (mC (.ty "tuple")) aNil)))))) (mOr (mCmp cGt (mFz (mBi lenF (aCons (mVar 0) aNil))) (mC (.int (4)))) (mNot (mTru (mFz (mBi allF (aCons (mFz (mLc [1] (mIterD (mVar 0)) (gSet 1) tYesM (mCalG 1 0 (fun ds _ => ds) mis_word (aCons (mVar 1) aNil) aNil))) aNil))))))) (mRet (mC (.bl false))) mNil)
    (mRet (mFz (mBi allF (aCons (mFz (mLc [1, 2] (mSrc zipXF (aCons (mVar 0) (aCons (mFz (mSl (mVar 0) (oSome (mC (.int 1))) oNone)) aNil))) (gTupM 2 (gsCons (gSet 1) (gsCons (gSet 2) gsNil))) tYesM (mB (mCmp cLt (mVar 1) (mVar 2))))) aNil)))))
noncomputable def mis_list : List D → Hd → Res D := runB 3 bis_list
theorem okis_list (T : Txt K w mg) {f : Addr} {fd : FuncData} (Fis_list : DefX K mg "is_list" "is_list" stis_list [] [] f fd) (Cis_word_1 : CalG P w K mg base 1 "is_word" 1 [] (fun ds _ => ds) mis_word) : FnG P w K mg base (L2.CX P w) 2 f fd ["thing"] (spM ⟨K, mg⟩ (["thing"] : List Str).length mis_list) := (fn_okX Fis_list scis_list fun cdv A outer s H E hr =>
    (s_cons (s_if (t_w (w_or (t_not (t_tru (SO.fz (e_bi call_isiA s_isi T.b_isinstance PyProof.Rows.boot_isinstance (a_cons (e_var 0) (a_cons (e_ty T.b_tuple PyProof.Rows.boot_tuple) a_nil)))))) (w_or (t_gt (SO.fz (e_bi call_len s_len T.b_len PySem.boot_len (a_cons (e_var 0) a_nil))) (e_globI T.c_MOST_WORDS)) (w_or1 (t_not (t_tru (SO.fz (e_bi (cr_all rfl) s_all T.b_all PyProof.Rows.boot_all (a_cons (SO.fz (e_lc rfl scis_list.nd (i_anyD (e_var 0)) (blkOk_by (own := [("one", 1)]) (N := Nis_list) (sc := defScope stis_list) (by decide +kernel)) (fun _ _ _ _ _ => (g_name 1 scis_list.nd)) (fun _ _ _ _ _ => ts_nil) (fun _ _ _ _ _ => (e_calG Cis_word_1 (hr.mono (by decide)) takes0 (a_cons (e_var 1) a_nil) k_nil)))) a_nil))))))))) (s_one (s_ret e_bl)) s_nil)
    (s_one (s_ret (SO.fz (e_bi (cr_all rfl) s_all T.b_all PyProof.Rows.boot_all (a_cons (SO.fz (e_lc rfl scis_list.nd (i_zipX T.b_zip (a_cons (e_var 0) (a_cons (SO.fz (e_sl (e_var 0) (o_some e_int) o_none)) a_nil))) (blkOk_by (own := [("one", 1), ("other", 2)]) (N := Nis_list) (sc := defScope stis_list) (by decide +kernel)) (fun _ _ _ _ _ => (g_tup rfl (gs_cons (gn_name 1 scis_list.nd) (gs_cons (gn_name 2 scis_list.nd) gs_nil)))) (fun _ _ _ _ _ => ts_nil) (fun _ _ _ _ _ => (e_lt (e_var 1) (e_var 2))))) a_nil)))))))
abbrev stform_of : Stmt := topS 53
abbrev Nform_of : List Str := ["sort", "first"]
theorem scform_of : FnScope Nform_of ["sort", "first"] (defScope stform_of) := ⟨rfl, rfl, rfl, by decide +kernel, rfl, by decide +kernel, by decide +kernel⟩
noncomputable def bform_of : MS :=
    (mSeq (mIfS (mCmp cEq (mVar 0) (mC (.str "c"))) (mRet (mKGet "CONDITIONS" kd_CONDITIONS (mVar 1))) mNil)
    (mSeq (mIfS (mCmp cEq (mVar 0) (mC (.str "g"))) (mRet (mKGet "CHANGES" kd_CHANGES (mVar 1))) mNil)
    (mRet (mIf (mCmp cEq (mVar 0) (mC (.str "y"))) (mKGet "WAYS" kd_WAYS (mVar 1)) (mKGet "ACTS" kd_ACTS (mVar 1))))))
noncomputable def mform_of : List D → Hd → Res D := runB 2 bform_of
theorem okform_of (T : Txt K w mg) {f : Addr} {fd : FuncData} (Fform_of : DefX K mg "form_of" "form_of" stform_of [] [] f fd)  : FnG P w K mg base (L2.CX P w) 1 f fd ["sort", "first"] (spM ⟨K, mg⟩ (["sort", "first"] : List Str).length mform_of) := (fn_okX Fform_of scform_of fun cdv A outer s H E hr =>
    (s_cons (s_if (t_eq hr.r (e_var 0) e_str) (s_one (s_ret (e_kget T.c_CONDITIONS (e_var 1)))) s_nil)
    (s_cons (s_if (t_eq hr.r (e_var 0) e_str) (s_one (s_ret (e_kget T.c_CHANGES (e_var 1)))) s_nil)
    (s_one (s_ret (e_if (t_eq hr.r (e_var 0) e_str) (e_kget T.c_WAYS (e_var 1)) (e_kget T.c_ACTS (e_var 1))))))))
abbrev stis_term : Stmt := topS 54
abbrev Nis_term : List Str := ["sort", "thing", "form"]
theorem scis_term : FnScope Nis_term ["sort", "thing"] (defScope stis_term) := ⟨rfl, rfl, rfl, by decide +kernel, rfl, by decide +kernel, by decide +kernel⟩
noncomputable def bis_term : MS :=
    (mSeq (mIfS (mOr (mNot (mTru (mFz (mBi isiF (aCons (mVar 1) (aCons (mC (.ty "tuple")) aNil)))))) (mOr (mCmp cEq (mFz (mBi lenF (aCons (mVar 1) aNil))) (mC (.int 0))) (mNot (mTru (mFz (mBi isiF (aCons (mIxD (mVar 1) (mC (.int 0))) (aCons (mC (.ty "str")) aNil)))))))) (mRet (mC (.bl false))) mNil)
    (mSeq (mSet 2 (mCalG 2 0 (fun ds _ => ds) mform_of (aCons (mVar 0) (aCons (mIxD (mVar 1) (mC (.int 0))) aNil)) aNil))
    (mRet (mAndV (mB (mCmp cIsNot (mVar 2) (mC .non))) (mB (mCmp cEq (mFz (mBi lenF (aCons (mVar 1) aNil))) (mFz (mBin addF (mC (.int 1)) (mFz (mBi lenF (aCons (mVar 2) aNil)))))))))))
noncomputable def mis_term : List D → Hd → Res D := runB 3 bis_term
theorem okis_term (T : Txt K w mg) {f : Addr} {fd : FuncData} (Fis_term : DefX K mg "is_term" "is_term" stis_term [] [] f fd) (Cform_of_2 : CalG P w K mg base 1 "form_of" 2 [] (fun ds _ => ds) mform_of) : FnG P w K mg base (L2.CX P w) 2 f fd ["sort", "thing"] (spM ⟨K, mg⟩ (["sort", "thing"] : List Str).length mis_term) := (fn_okX Fis_term scis_term fun cdv A outer s H E hr =>
    (s_cons (s_if (t_w (w_or (t_not (t_tru (SO.fz (e_bi call_isiA s_isi T.b_isinstance PyProof.Rows.boot_isinstance (a_cons (e_var 1) (a_cons (e_ty T.b_tuple PyProof.Rows.boot_tuple) a_nil)))))) (w_or (t_eq hr.r (SO.fz (e_bi call_len s_len T.b_len PySem.boot_len (a_cons (e_var 1) a_nil))) e_int) (w_or1 (t_not (t_tru (SO.fz (e_bi call_isiA s_isi T.b_isinstance PyProof.Rows.boot_isinstance (a_cons (e_ixD hr.r (e_var 1) e_int) (a_cons (e_ty T.b_str PyProof.Rows.boot_str) a_nil)))))))))) (s_one (s_ret e_bl)) s_nil)
    (s_cons (s_set 2 (e_calG Cform_of_2 (hr.mono (by decide)) (takes_of rfl rfl rfl rfl) (a_cons (e_var 0) (a_cons (e_ixD hr.r (e_var 1) e_int) a_nil)) k_nil) scis_term.nd)
    (s_one (s_ret (e_and (e_isnot (e_var 2) e_non) (e_one (e_eq hr.r (SO.fz (e_bi call_len s_len T.b_len PySem.boot_len (a_cons (e_var 1) a_nil))) (SO.fz (o_add e_int (SO.fz (e_bi call_len s_len T.b_len PySem.boot_len (a_cons (e_var 2) a_nil)))))))))))))
abbrev stis_writ : Stmt := topS 61
abbrev Nis_writ : List Str := ["thing", "plain", "first", "rest", "good"]
theorem scis_writ : FnScope Nis_writ ["thing", "plain"] (defScope stis_writ) := ⟨rfl, rfl, rfl, by decide +kernel, rfl, by decide +kernel, by decide +kernel⟩
noncomputable def bis_writ : MS :=
    mBadS
noncomputable def mis_writ : List D → Hd → Res D := runB 5 bis_writ
theorem okis_writ (T : Txt K w mg) {f : Addr} {fd : FuncData} (Fis_writ : DefX K mg "is_writ" "is_writ" stis_writ [] [("plain", .bl false)] f fd)  : FnG P w K mg base (L2.CX P w) 1 f fd ["thing", "plain"] (spM ⟨K, mg⟩ (["thing", "plain"] : List Str).length mis_writ) := (fn_okX Fis_writ scis_writ fun cdv A outer s H E hr =>
    ss_bad)
abbrev stis_part : Stmt := topS 55
abbrev Nis_part : List Str := ["sort", "thing", "deep"]
theorem scis_part : FnScope Nis_part ["sort", "thing", "deep"] (defScope stis_part) := ⟨rfl, rfl, rfl, by decide +kernel, rfl, by decide +kernel, by decide +kernel⟩
noncomputable def bis_part (qis_part : List D → Hd → Res D) (qis_condition : List D → Hd → Res D) (qis_change : List D → Hd → Res D) : MS :=
    (mSeq (mIfS (mCmp cEq (mVar 0) (mC (.str "w"))) (mRet (mCalG 1 0 (fun ds _ => ds) mis_word (aCons (mVar 1) aNil) aNil)) mNil)
    (mSeq (mIfS (mCmp cEq (mVar 0) (mC (.str "l"))) (mRet (mCalG 1 0 (fun ds _ => ds) mis_list (aCons (mVar 1) aNil) aNil)) mNil)
    (mSeq (mIfS (mCmp cEq (mVar 0) (mC (.str "n"))) (mRet (mCalG 3 0 (fun ds _ => ds) mis_number (aCons (mVar 1) (aCons (mFz (mBin subF (mC (.int 0)) (mC (.int (99))))) (aCons (mC (.int (99))) aNil))) aNil)) mNil)
    (mSeq (mIfS (mCmp cEq (mVar 0) (mC (.str "k"))) (mRet (mCalG 3 0 (fun ds _ => ds) mis_number (aCons (mVar 1) (aCons (mC (.int 1)) (aCons (mC (.int (99))) aNil))) aNil)) mNil)
    (mSeq (mIfS (mCmp cEq (mVar 0) (mC (.str "h"))) (mRet (mCalG 3 0 (fun ds _ => ds) mis_number (aCons (mVar 1) (aCons (mC (.int 0)) (aCons (mFz (mBin subF (mC (.int (4))) (mC (.int 1)))) aNil))) aNil)) mNil)
    (mSeq (mIfS (mCmp cEq (mVar 0) (mC (.str "t"))) (mRet (mAndV (mFz (mBi isiF (aCons (mVar 1) (aCons (mC (.ty "int")) aNil)))) (mAndV (mNotV (mFz (mBi isiF (aCons (mVar 1) (aCons (mC (.ty "bool")) aNil))))) (mB (mCmp cGt (mVar 1) (mC (.int 0))))))) mNil)
    (mSeq (mIfS (mCmp cEq (mVar 0) (mC (.str "c"))) (mRet (mCalG 1 1 (fun ds es => pickL [0, 1] (ds ++ es)) qis_condition (aCons (mVar 1) aNil) (aCons (mVar 2) aNil))) mNil)
    (mSeq (mIfS (mCmp cEq (mVar 0) (mC (.str "o"))) (mRet (mOrV (mB (mCmp cEq (mVar 1) (mTup (aCons (mC (.str "it")) aNil)))) (mCalG 1 1 (fun ds es => pickL [0, 1] (ds ++ es)) qis_condition (aCons (mVar 1) aNil) (aCons (mVar 2) aNil)))) mNil)
    (mSeq (mIfS (mCmp cEq (mVar 0) (mC (.str "g"))) (mRet (mCalG 1 1 (fun ds es => pickL [0, 1] (ds ++ es)) qis_change (aCons (mVar 1) aNil) (aCons (mC (.bl true)) aNil))) mNil)
    (mRet (mCalG 1 1 (fun ds es => pickL [0, 1] (ds ++ es)) mis_writ (aCons (mVar 1) aNil) (aCons (mC (.bl true)) aNil))))))))))))
abbrev stis_condition : Stmt := topS 56
abbrev Nis_condition : List Str := ["thing", "deep", "sort", "part"]
theorem scis_condition : FnScope Nis_condition ["thing", "deep"] (defScope stis_condition) := ⟨rfl, rfl, rfl, by decide +kernel, rfl, by decide +kernel, by decide +kernel⟩
noncomputable def bis_condition (qis_part : List D → Hd → Res D) (qis_condition : List D → Hd → Res D) (qis_change : List D → Hd → Res D) : MS :=
    (mSeq (mIfS (mOr (mCmp cLt (mVar 1) (mC (.int 1))) (mNot (mTru (mCalG 2 0 (fun ds _ => ds) mis_term (aCons (mC (.str "c")) (aCons (mVar 0) aNil)) aNil)))) (mRet (mC (.bl false))) mNil)
    (mRet (mFz (mBi allF (aCons (mFz (mLc [2, 3] (mSrc zipXF (aCons (mKIx "CONDITIONS" kd_CONDITIONS (mIxD (mVar 0) (mC (.int 0)))) (aCons (mFz (mSl (mVar 0) (oSome (mC (.int 1))) oNone)) aNil))) (gTupM 2 (gsCons (gSet 2) (gsCons (gSet 3) gsNil))) tYesM (mCalG 3 0 (fun ds _ => ds) qis_part (aCons (mVar 2) (aCons (mVar 3) (aCons (mFz (mBin subF (mVar 1) (mC (.int 1)))) aNil))) aNil))) aNil)))))
abbrev stis_change : Stmt := topS 57
abbrev Nis_change : List Str := ["thing", "plain", "sort", "part"]
theorem scis_change : FnScope Nis_change ["thing", "plain"] (defScope stis_change) := ⟨rfl, rfl, rfl, by decide +kernel, rfl, by decide +kernel, by decide +kernel⟩
noncomputable def bis_change (qis_part : List D → Hd → Res D) (qis_condition : List D → Hd → Res D) (qis_change : List D → Hd → Res D) : MS :=
    (mSeq (mIfS (mOr (mNot (mTru (mCalG 2 0 (fun ds _ => ds) mis_term (aCons (mC (.str "g")) (aCons (mVar 0) aNil)) aNil))) (mAnd (mTru (mVar 1)) (mCmp cInD (mIxD (mVar 0) (mC (.int 0))) (mTup (aCons (mC (.str "copy")) (aCons (mC (.str "gain")) aNil)))))) (mRet (mC (.bl false))) mNil)
    (mRet (mFz (mBi allF (aCons (mFz (mLc [2, 3] (mSrc zipXF (aCons (mKIx "CHANGES" kd_CHANGES (mIxD (mVar 0) (mC (.int 0)))) (aCons (mFz (mSl (mVar 0) (oSome (mC (.int 1))) oNone)) aNil))) (gTupM 2 (gsCons (gSet 2) (gsCons (gSet 3) gsNil))) tYesM (mCalG 3 0 (fun ds _ => ds) qis_part (aCons (mVar 2) (aCons (mVar 3) (aCons (mC (.int (4))) aNil))) aNil))) aNil)))))
mutual
noncomputable def ris_part : Nat → List D → Hd → Res D
  | 0 => runB 3 mBadS
  | n + 1 => runB 3 (bis_part (ris_part n) (ris_condition n) (ris_change n))
noncomputable def ris_condition : Nat → List D → Hd → Res D
  | 0 => runB 4 mBadS
  | n + 1 => runB 4 (bis_condition (ris_part n) (ris_condition n) (ris_change n))
noncomputable def ris_change : Nat → List D → Hd → Res D
  | 0 => runB 4 mBadS
  | n + 1 => runB 4 (bis_change (ris_part n) (ris_condition n) (ris_change n))
end
theorem rokis_part (T : Txt K w mg) {fis_part : Addr} {dis_part : FuncData} (Fis_part : DefX K mg "is_part" "is_part" stis_part [] [] fis_part dis_part) {fis_condition : Addr} {dis_condition : FuncData} (Fis_condition : DefX K mg "is_condition" "is_condition" stis_condition [] [("deep", .int (4))] fis_condition dis_condition) {fis_change : Addr} {dis_change : FuncData} (Fis_change : DefX K mg "is_change" "is_change" stis_change [] [("plain", .bl false)] fis_change dis_change) (BCis_part_3 : ShB K mg "is_part" fis_part dis_part ["sort", "thing", "deep"] 3 [] (fun ds _ => ds)) (BCis_condition_1_deep : ShB K mg "is_condition" fis_condition dis_condition ["thing", "deep"] 1 ["deep"] (fun ds es => pickL [0, 1] (ds ++ es))) (BCis_change_1_plain : ShB K mg "is_change" fis_change dis_change ["thing", "plain"] 1 ["plain"] (fun ds es => pickL [0, 1] (ds ++ es))) (Cis_number_3 : CalG P w K mg base 1 "is_number" 3 [] (fun ds _ => ds) mis_number) (Cis_word_1 : CalG P w K mg base 1 "is_word" 1 [] (fun ds _ => ds) mis_word) (Cis_list_1 : CalG P w K mg base 2 "is_list" 1 [] (fun ds _ => ds) mis_list) (Cis_term_2 : CalG P w K mg base 2 "is_term" 2 [] (fun ds _ => ds) mis_term) (Cis_writ_1_plain : CalG P w K mg base 1 "is_writ" 1 ["plain"] (fun ds es => pickL [0, 1] (ds ++ es)) mis_writ) : ∀ n : Nat, (FnG P w K mg base (L2.CX P w) (2 + n + 1) fis_part dis_part ["sort", "thing", "deep"] (spM ⟨K, mg⟩ (["sort", "thing", "deep"] : List Str).length (ris_part n))) ∧ (FnG P w K mg base (L2.CX P w) (2 + n + 1) fis_condition dis_condition ["thing", "deep"] (spM ⟨K, mg⟩ (["thing", "deep"] : List Str).length (ris_condition n))) ∧ (FnG P w K mg base (L2.CX P w) (2 + n + 1) fis_change dis_change ["thing", "plain"] (spM ⟨K, mg⟩ (["thing", "plain"] : List Str).length (ris_change n)))
  | 0 => ⟨fn_okX Fis_part scis_part fun cdv A outer s H E hr => ss_bad,
    fn_okX Fis_condition scis_condition fun cdv A outer s H E hr => ss_bad,
    fn_okX Fis_change scis_change fun cdv A outer s H E hr => ss_bad⟩
  | n + 1 => by
    obtain ⟨Ois_part, Ois_condition, Ois_change⟩ := rokis_part T Fis_part Fis_condition Fis_change BCis_part_3 BCis_condition_1_deep BCis_change_1_plain Cis_number_3 Cis_word_1 Cis_list_1 Cis_term_2 Cis_writ_1_plain n
    have Cis_part_3 := BCis_part_3.cal Ois_part
    have Cis_condition_1_deep := BCis_condition_1_deep.cal Ois_condition
    have Cis_change_1_plain := BCis_change_1_plain.cal Ois_change
    exact ⟨fn_okX Fis_part scis_part fun cdv A outer s H E hr =>
    (s_cons (s_if (t_eq hr.r (e_var 0) e_str) (s_one (s_ret (e_calG Cis_word_1 (hr.mono (by omega)) (takes_of rfl rfl rfl rfl) (a_cons (e_var 1) a_nil) k_nil))) s_nil)
    (s_cons (s_if (t_eq hr.r (e_var 0) e_str) (s_one (s_ret (e_calG Cis_list_1 (hr.mono (by omega)) (takes_of rfl rfl rfl rfl) (a_cons (e_var 1) a_nil) k_nil))) s_nil)
    (s_cons (s_if (t_eq hr.r (e_var 0) e_str) (s_one (s_ret (e_calG Cis_number_3 (hr.mono (by omega)) (takes_of rfl rfl rfl rfl) (a_cons (e_var 1) (a_cons (SO.fz (o_sub e_int (e_globI T.c_MOST_NUMBER))) (a_cons (e_globI T.c_MOST_NUMBER) a_nil))) k_nil))) s_nil)
    (s_cons (s_if (t_eq hr.r (e_var 0) e_str) (s_one (s_ret (e_calG Cis_number_3 (hr.mono (by omega)) (takes_of rfl rfl rfl rfl) (a_cons (e_var 1) (a_cons e_int (a_cons (e_globI T.c_MOST_NUMBER) a_nil))) k_nil))) s_nil)
    (s_cons (s_if (t_eq hr.r (e_var 0) e_str) (s_one (s_ret (e_calG Cis_number_3 (hr.mono (by omega)) (takes_of rfl rfl rfl rfl) (a_cons (e_var 1) (a_cons e_int (a_cons (SO.fz (o_sub (e_globI T.c_MOST_HANDS) e_int)) a_nil))) k_nil))) s_nil)
    (s_cons (s_if (t_eq hr.r (e_var 0) e_str) (s_one (s_ret (e_and (SO.fz (e_bi call_isiA s_isi T.b_isinstance PyProof.Rows.boot_isinstance (a_cons (e_var 1) (a_cons (e_ty T.b_int PyProof.Rows.boot_int) a_nil)))) (e_and (e_not (SO.fz (e_bi call_isiA s_isi T.b_isinstance PyProof.Rows.boot_isinstance (a_cons (e_var 1) (a_cons (e_ty T.b_bool PyProof.Rows.boot_bool) a_nil))))) (e_one (e_gt (e_var 1) e_int)))))) s_nil)
    (s_cons (s_if (t_eq hr.r (e_var 0) e_str) (s_one (s_ret (e_calG Cis_condition_1_deep (hr.mono (by omega)) (takes_of rfl rfl rfl rfl) (a_cons (e_var 1) a_nil) (k_cons (e_var 2) k_nil)))) s_nil)
    (s_cons (s_if (t_eq hr.r (e_var 0) e_str) (s_one (s_ret (e_or (e_eq hr.r (e_var 1) (e_tup (a_cons e_str a_nil))) (e_one (e_calG Cis_condition_1_deep (hr.mono (by omega)) (takes_of rfl rfl rfl rfl) (a_cons (e_var 1) a_nil) (k_cons (e_var 2) k_nil)))))) s_nil)
    (s_cons (s_if (t_eq hr.r (e_var 0) e_str) (s_one (s_ret (e_calG Cis_change_1_plain (hr.mono (by omega)) (takes_of rfl rfl rfl rfl) (a_cons (e_var 1) a_nil) (k_cons e_bl k_nil)))) s_nil)
    (s_one (s_ret (e_calG Cis_writ_1_plain (hr.mono (by omega)) (takes_of rfl rfl rfl rfl) (a_cons (e_var 1) a_nil) (k_cons e_bl k_nil))))))))))))),
    fn_okX Fis_condition scis_condition fun cdv A outer s H E hr =>
    (s_cons (s_if (t_w (w_or (t_lt (e_var 1) e_int) (w_or1 (t_not (t_tru (e_calG Cis_term_2 (hr.mono (by omega)) (takes_of rfl rfl rfl rfl) (a_cons e_str (a_cons (e_var 0) a_nil)) k_nil)))))) (s_one (s_ret e_bl)) s_nil)
    (s_one (s_ret (SO.fz (e_bi (cr_all rfl) s_all T.b_all PyProof.Rows.boot_all (a_cons (SO.fz (e_lc rfl scis_condition.nd (i_zipX T.b_zip (a_cons (e_kix T.c_CONDITIONS (e_ixD hr.r (e_var 0) e_int)) (a_cons (SO.fz (e_sl (e_var 0) (o_some e_int) o_none)) a_nil))) (blkOk_by (own := [("sort", 2), ("part", 3)]) (N := Nis_condition) (sc := defScope stis_condition) (by decide +kernel)) (fun _ _ _ _ _ => (g_tup rfl (gs_cons (gn_name 2 scis_condition.nd) (gs_cons (gn_name 3 scis_condition.nd) gs_nil)))) (fun _ _ _ _ _ => ts_nil) (fun _ _ _ _ _ => (e_calG Cis_part_3 (hr.mono (by omega)) takes0 (a_cons (e_var 2) (a_cons (e_var 3) (a_cons (SO.fz (o_sub (e_var 1) e_int)) a_nil))) k_nil)))) a_nil)))))),
    fn_okX Fis_change scis_change fun cdv A outer s H E hr =>
    (s_cons (s_if (t_w (w_or (t_not (t_tru (e_calG Cis_term_2 (hr.mono (by omega)) (takes_of rfl rfl rfl rfl) (a_cons e_str (a_cons (e_var 0) a_nil)) k_nil))) (w_or1 (t_w (w_and (t_tru (e_var 1)) (w_and1 (t_inDD hr.r (e_ixD hr.r (e_var 0) e_int) (e_tup (a_cons e_str (a_cons e_str a_nil)))))))))) (s_one (s_ret e_bl)) s_nil)
    (s_one (s_ret (SO.fz (e_bi (cr_all rfl) s_all T.b_all PyProof.Rows.boot_all (a_cons (SO.fz (e_lc rfl scis_change.nd (i_zipX T.b_zip (a_cons (e_kix T.c_CHANGES (e_ixD hr.r (e_var 0) e_int)) (a_cons (SO.fz (e_sl (e_var 0) (o_some e_int) o_none)) a_nil))) (blkOk_by (own := [("sort", 2), ("part", 3)]) (N := Nis_change) (sc := defScope stis_change) (by decide +kernel)) (fun _ _ _ _ _ => (g_tup rfl (gs_cons (gn_name 2 scis_change.nd) (gs_cons (gn_name 3 scis_change.nd) gs_nil)))) (fun _ _ _ _ _ => ts_nil) (fun _ _ _ _ _ => (e_calG Cis_part_3 (hr.mono (by omega)) takes0 (a_cons (e_var 2) (a_cons (e_var 3) (a_cons (e_globI T.c_MOST_DEEP) a_nil))) k_nil)))) a_nil))))))⟩
noncomputable abbrev mis_part := ris_part 12
noncomputable abbrev mis_condition := ris_condition 12
noncomputable abbrev mis_change := ris_change 12
theorem okis_part (T : Txt K w mg) {fis_part : Addr} {dis_part : FuncData} (Fis_part : DefX K mg "is_part" "is_part" stis_part [] [] fis_part dis_part) {fis_condition : Addr} {dis_condition : FuncData} (Fis_condition : DefX K mg "is_condition" "is_condition" stis_condition [] [("deep", .int (4))] fis_condition dis_condition) {fis_change : Addr} {dis_change : FuncData} (Fis_change : DefX K mg "is_change" "is_change" stis_change [] [("plain", .bl false)] fis_change dis_change) (BCis_part_3 : ShB K mg "is_part" fis_part dis_part ["sort", "thing", "deep"] 3 [] (fun ds _ => ds)) (BCis_condition_1_deep : ShB K mg "is_condition" fis_condition dis_condition ["thing", "deep"] 1 ["deep"] (fun ds es => pickL [0, 1] (ds ++ es))) (BCis_change_1_plain : ShB K mg "is_change" fis_change dis_change ["thing", "plain"] 1 ["plain"] (fun ds es => pickL [0, 1] (ds ++ es))) (Cis_number_3 : CalG P w K mg base 1 "is_number" 3 [] (fun ds _ => ds) mis_number) (Cis_word_1 : CalG P w K mg base 1 "is_word" 1 [] (fun ds _ => ds) mis_word) (Cis_list_1 : CalG P w K mg base 2 "is_list" 1 [] (fun ds _ => ds) mis_list) (Cis_term_2 : CalG P w K mg base 2 "is_term" 2 [] (fun ds _ => ds) mis_term) (Cis_writ_1_plain : CalG P w K mg base 1 "is_writ" 1 ["plain"] (fun ds es => pickL [0, 1] (ds ++ es)) mis_writ) : (FnG P w K mg base (L2.CX P w) 15 fis_part dis_part ["sort", "thing", "deep"] (spM ⟨K, mg⟩ (["sort", "thing", "deep"] : List Str).length mis_part)) ∧ (FnG P w K mg base (L2.CX P w) 15 fis_condition dis_condition ["thing", "deep"] (spM ⟨K, mg⟩ (["thing", "deep"] : List Str).length mis_condition)) ∧ (FnG P w K mg base (L2.CX P w) 15 fis_change dis_change ["thing", "plain"] (spM ⟨K, mg⟩ (["thing", "plain"] : List Str).length mis_change)) := rokis_part T Fis_part Fis_condition Fis_change BCis_part_3 BCis_condition_1_deep BCis_change_1_plain Cis_number_3 Cis_word_1 Cis_list_1 Cis_term_2 Cis_writ_1_plain 12
abbrev stchanges_in : Stmt := topS 71
abbrev Nchanges_in : List Str := ["changes", "layer", "change"]
theorem scchanges_in : FnScope Nchanges_in ["changes", "layer"] (defScope stchanges_in) := ⟨rfl, rfl, rfl, by decide +kernel, rfl, by decide +kernel, by decide +kernel⟩
noncomputable def bchanges_in : MS :=
    (mRet (mFz (mLc [2] (mIterD (mVar 0)) (gSet 2) (mCmp cEq (mKIx "LAYER_OF" kd_LAYER_OF (mIxD (mVar 2) (mC (.int 0)))) (mVar 1)) (mVar 2))))
noncomputable def mchanges_in : List D → Hd → Res D := runB 3 bchanges_in
theorem okchanges_in (T : Txt K w mg) {f : Addr} {fd : FuncData} (Fchanges_in : DefX K mg "changes_in" "changes_in" stchanges_in [] [] f fd)  : FnG P w K mg base (L2.CX P w) 1 f fd ["changes", "layer"] (spM ⟨K, mg⟩ (["changes", "layer"] : List Str).length mchanges_in) := (fn_okX Fchanges_in scchanges_in fun cdv A outer s H E hr =>
    (s_one (s_ret (SO.fz (e_lc rfl scchanges_in.nd (i_anyD (e_var 0)) (blkOk_by (own := [("change", 2)]) (N := Nchanges_in) (sc := defScope stchanges_in) (by decide +kernel)) (fun _ _ _ _ _ => (g_name 2 scchanges_in.nd)) (fun _ _ _ _ _ => (ts_one (t_eq hr.r (e_kix T.c_LAYER_OF (e_ixD hr.r (e_var 2) e_int)) (e_var 1)))) (fun _ _ _ _ _ => (e_var 2)))))))
abbrev stwrits_now : Stmt := topS 72
abbrev Nwrits_now : List Str := ["stand", "found", "number", "name", "writ"]
theorem scwrits_now : FnScope Nwrits_now ["stand"] (defScope stwrits_now) := ⟨rfl, rfl, rfl, by decide +kernel, rfl, by decide +kernel, by decide +kernel⟩
noncomputable def bwrits_now : MS :=
    (mSeq (mSet 1 (mOwn mDictT))
    (mSeq (mFor (mIterD (mFz (mBi srtGF (aCons (mFld "Stand" "shown" (mVar 0)) aNil)))) (gSet 2) (mFor (mIterD (mIxD (mIxD (mFld "Stand" "shown" (mVar 0)) (mVar 2)) (mC (.str "writs")))) (gTupM 2 (gsCons (gSet 3) (gsCons (gSet 4) gsNil))) (mIfS (mCmp cEq (mIxD (mVar 4) (mC (.int 0))) (mC (.str "stand"))) (mDPut (mVar 1) (mVar 3) (mTup (aCons (mVar 2) (aCons (mC .non) (aCons (mIxD (mVar 4) (mC (.int 1))) (aCons (mIxD (mVar 4) (mC (.int 2))) aNil)))))) mNil)))
    (mRet (mFrz (mVar 1)))))
noncomputable def mwrits_now : List D → Hd → Res D := runB 5 bwrits_now
theorem okwrits_now (T : Txt K w mg) {f : Addr} {fd : FuncData} (Fwrits_now : DefX K mg "writs_now" "writs_now" stwrits_now [] [] f fd)  : FnG P w K mg base (L2.CX P w) 1 f fd ["stand"] (spM ⟨K, mg⟩ (["stand"] : List Str).length mwrits_now) := (fn_okX Fwrits_now scwrits_now fun cdv A outer s H E hr =>
    (s_cons (s_set 1 (SO.own e_dictT) scwrits_now.nd)
    (s_cons (s_for rfl (i_anyD (SO.fz (e_bi (cr_srtG hr.r rfl) s_srtG T.b_sorted PyProof.Rows.boot_sorted (a_cons (e_fld T.k_Stand.V (e_var 0)) a_nil)))) (g_name 2 scwrits_now.nd) (s_one (s_for rfl (i_anyD (e_ixD hr.r (e_ixD hr.r (e_fld T.k_Stand.V (e_var 0)) (e_var 2)) e_str)) (g_tup rfl (gs_cons (gn_name 3 scwrits_now.nd) (gs_cons (gn_name 4 scwrits_now.nd) gs_nil))) (s_one (s_if (t_eq hr.r (e_ixD hr.r (e_var 4) e_int) e_str) (s_one (s_dput hr.r (e_var 1) (e_var 3) (e_tup (a_cons (e_var 2) (a_cons e_non (a_cons (e_ixD hr.r (e_var 4) e_int) (a_cons (e_ixD hr.r (e_var 4) e_int) a_nil))))))) s_nil)) (passes_of rfl))) (passes_of rfl))
    (s_one (s_ret (e_frz (e_var 1)))))))
abbrev ststanding : Stmt := topS 73
abbrev Nstanding : List Str := ["stand", "layer", "lasting", "begun", "found", "name", "one", "moment", "hand", "whom", "change"]
theorem scstanding : FnScope Nstanding ["stand", "layer", "lasting", "begun"] (defScope ststanding) := ⟨rfl, rfl, rfl, by decide +kernel, rfl, by decide +kernel, by decide +kernel⟩
noncomputable def bstanding : MS :=
    (mSeq (mLk 3 (mSet 4 (mOwn (mDc true [5, 6] (mItems (mVar 3)) (gTupM 2 (gsCons (gSet 5) (gsCons (gSet 6) gsNil))) tYesM (mVar 5) (mIxD (mVar 6) (mC (.int 0)))))))
    (mSeq (mExpr (mFz (mMeth isOwnD updGF (mVar 4) (aCons (mCalG 1 0 (fun ds _ => ds) mwrits_now (aCons (mVar 0) aNil) aNil) aNil))))
    (mSeq (mFor (mIterD (mVar 2)) (gTupM 4 (gsCons (gSet 7) (gsCons (gSet 8) (gsCons (gSet 9) (gsCons (gSet 10) gsNil))))) (mDPut (mVar 4) (mTup (aCons (mVar 7) (aCons (mC (.int 0)) (aCons (mC (.int 0)) aNil)))) (mTup (aCons (mC (.int 0)) (aCons (mVar 8) (aCons (mVar 9) (aCons (mTup (aCons (mVar 10) aNil)) aNil)))))))
    (mLk 4 (mRet (mFz (mDc true [5, 6] (mItems (mVar 4)) (gTupM 2 (gsCons (gSet 5) (gsCons (gSet 6) gsNil))) (mCmp cNe (mCalG 2 0 (fun ds _ => ds) mchanges_in (aCons (mIxD (mVar 6) (mC (.int 3))) (aCons (mVar 1) aNil)) aNil) (mFz (mLst aNil))) (mVar 5) (mVar 6))))))))
noncomputable def mstanding : List D → Hd → Res D := runB 11 bstanding
theorem okstanding (T : Txt K w mg) {f : Addr} {fd : FuncData} (Fstanding : DefX K mg "standing" "standing" ststanding [] [] f fd) (Cchanges_in_2 : CalG P w K mg base 1 "changes_in" 2 [] (fun ds _ => ds) mchanges_in) (Cwrits_now_1 : CalG P w K mg base 1 "writs_now" 1 [] (fun ds _ => ds) mwrits_now) : FnG P w K mg base (L2.CX P w) 2 f fd ["stand", "layer", "lasting", "begun"] (spM ⟨K, mg⟩ (["stand", "layer", "lasting", "begun"] : List Str).length mstanding) := (fn_okX Fstanding scstanding fun cdv A outer s H E hr =>
    (s_cons (s_lock 3 (s_dcOwn true 4 hr.r rfl scstanding.nd (i_items (e_var 3)) (blkOk_by (own := [("name", 5), ("one", 6)]) (N := Nstanding) (sc := defScope ststanding) (by decide +kernel)) (fun _ _ _ _ _ => (g_tup rfl (gs_cons (gn_name 5 scstanding.nd) (gs_cons (gn_name 6 scstanding.nd) gs_nil)))) (fun _ _ _ _ _ => ts_nil) (fun _ _ _ _ _ => (e_var 5)) (fun _ _ _ _ _ => (e_ixD hr.r (e_var 6) e_int))))
    (s_cons (s_expr (SO.fz (e_meth PySem.F.plainAttrs_dict PySem.F.slot_dict_update PySem.F.type_dict_update (mtd_updG hr.r) isOwnD_ty s_updG (e_var 4) (a_cons (e_calG Cwrits_now_1 (hr.mono (by decide)) (takes_of rfl rfl rfl rfl) (a_cons (e_var 0) a_nil) k_nil) a_nil))))
    (s_cons (s_for rfl (i_anyD (e_var 2)) (g_tup rfl (gs_cons (gn_name 7 scstanding.nd) (gs_cons (gn_name 8 scstanding.nd) (gs_cons (gn_name 9 scstanding.nd) (gs_cons (gn_name 10 scstanding.nd) gs_nil))))) (s_one (s_dput hr.r (e_var 4) (e_tup (a_cons (e_var 7) (a_cons e_int (a_cons e_int a_nil)))) (e_tup (a_cons e_int (a_cons (e_var 8) (a_cons (e_var 9) (a_cons (e_tup (a_cons (e_var 10) a_nil)) a_nil))))))) (passes_of rfl))
    (s_one (s_lock 4 (s_ret (SO.fz (e_dc true hr.r rfl scstanding.nd (i_items (e_var 4)) (blkOk_by (own := [("name", 5), ("one", 6)]) (N := Nstanding) (sc := defScope ststanding) (by decide +kernel)) (fun _ _ _ _ _ => (g_tup rfl (gs_cons (gn_name 5 scstanding.nd) (gs_cons (gn_name 6 scstanding.nd) gs_nil)))) (fun _ _ _ _ _ => (ts_one (t_ne hr.r (e_calG Cchanges_in_2 (hr.mono (by decide)) takes0 (a_cons (e_ixD hr.r (e_var 6) e_int) (a_cons (e_var 1) a_nil)) k_nil) (SO.fz (e_lst a_nil))))) (fun _ _ _ _ _ => (e_var 5)) (fun _ _ _ _ _ => (e_var 6)))))))))))
abbrev stof_numbers : Stmt := topS 80
abbrev Nof_numbers : List Str := ["look", "first", "rest", "force", "guard"]
theorem scof_numbers : FnScope Nof_numbers ["look", "first", "rest"] (defScope stof_numbers) := ⟨rfl, rfl, rfl, by decide +kernel, rfl, by decide +kernel, by decide +kernel⟩
noncomputable def bof_numbers : MS :=
    (mSeq (mPar 3 4 (aCons (mIxD (mVar 0) (mC (.str "force"))) (aCons (mIxD (mVar 0) (mC (.str "guard"))) aNil)))
    (mSeq (mIfS (mCmp cEq (mVar 1) (mC (.str "size"))) (mAsg (mVar 2) (gUnlM 2 (gsCons (gSet 3) (gsCons (gSet 4) gsNil)))) (mIfS (mCmp cEq (mVar 1) (mC (.str "more"))) (mPar 3 4 (aCons (mFz (mBin addF (mVar 3) (mIxD (mVar 2) (mC (.int 0))))) (aCons (mFz (mBin addF (mVar 4) (mIxD (mVar 2) (mC (.int 1))))) aNil))) (mPar 3 4 (aCons (mVar 4) (aCons (mVar 3) aNil)))))
    (mRet (mFrz (mCalG 3 0 (fun ds _ => ds) mturned (aCons (mCalG 3 0 (fun ds _ => ds) mturned (aCons (mVar 0) (aCons (mC (.str "force")) (aCons (mVar 3) aNil))) aNil) (aCons (mC (.str "guard")) (aCons (mVar 4) aNil))) aNil)))))
noncomputable def mof_numbers : List D → Hd → Res D := runB 5 bof_numbers
theorem okof_numbers (T : Txt K w mg) {f : Addr} {fd : FuncData} (Fof_numbers : DefX K mg "of_numbers" "of_numbers" stof_numbers [] [] f fd) (Cturned_3 : CalG P w K mg base 1 "turned" 3 [] (fun ds _ => ds) mturned) : FnG P w K mg base (L2.CX P w) 2 f fd ["look", "first", "rest"] (spM ⟨K, mg⟩ (["look", "first", "rest"] : List Str).length mof_numbers) := (fn_okX Fof_numbers scof_numbers fun cdv A outer s H E hr =>
    (s_cons (s_par 3 4 scof_numbers.nd (a_cons (e_ixD hr.r (e_var 0) e_str) (a_cons (e_ixD hr.r (e_var 0) e_str) a_nil)))
    (s_cons (s_if (t_eq hr.r (e_var 1) e_str) (s_one (s_asg (e_var 2) (g_unl rfl (gs_cons (gn_name 3 scof_numbers.nd) (gs_cons (gn_name 4 scof_numbers.nd) gs_nil))))) (s_one (s_if (t_eq hr.r (e_var 1) e_str) (s_one (s_par 3 4 scof_numbers.nd (a_cons (SO.fz (o_add (e_var 3) (e_ixD hr.r (e_var 2) e_int))) (a_cons (SO.fz (o_add (e_var 4) (e_ixD hr.r (e_var 2) e_int))) a_nil)))) (s_one (s_par 3 4 scof_numbers.nd (a_cons (e_var 4) (a_cons (e_var 3) a_nil)))))))
    (s_one (s_ret (e_frz (e_calG Cturned_3 (hr.mono (by decide)) (takes_of rfl rfl rfl rfl) (a_cons (e_calG Cturned_3 (hr.mono (by decide)) (takes_of rfl rfl rfl rfl) (a_cons (e_var 0) (a_cons e_str (a_cons (e_var 3) a_nil))) k_nil) (a_cons e_str (a_cons (e_var 4) a_nil))) k_nil)))))))
abbrev stmarked : Stmt := topS 88
abbrev Nmarked : List Str := ["stand", "marks", "looks", "number", "look"]
theorem scmarked : FnScope Nmarked ["stand", "marks"] (defScope stmarked) := ⟨rfl, rfl, rfl, by decide +kernel, rfl, by decide +kernel, by decide +kernel⟩
noncomputable def bmarked : MS :=
    (mSeq (mSet 2 (mOwn mDict0))
    (mSeq (mFor (mItems (mFld "Stand" "shown" (mVar 0))) (gTupM 2 (gsCons (gSet 3) (gsCons (gSet 4) gsNil))) (mDPut (mVar 2) (mVar 3) (mCalG 3 0 (fun ds _ => ds) mof_numbers (aCons (mVar 4) (aCons (mC (.str "more")) (aCons (mTup (aCons (mIxD (mVar 1) (mVar 3)) (aCons (mIxD (mVar 1) (mVar 3)) aNil))) aNil))) aNil)))
    (mRet (mFrz (mMakG "Stand" 2 0 (fun ds _ => ds) mStand_m___init__ (aCons (mFrz (mVar 2)) (aCons (mFld "Stand" "came" (mVar 0)) aNil)) aNil)))))
noncomputable def mmarked : List D → Hd → Res D := runB 5 bmarked
theorem okmarked (T : Txt K w mg) {f : Addr} {fd : FuncData} (Fmarked : DefX K mg "marked" "marked" stmarked [] [] f fd) (QStand_m___init___2 : MakG P w K mg base 1 "Stand" 2 [] (fun ds _ => ds) mStand_m___init__) (Cof_numbers_3 : CalG P w K mg base 2 "of_numbers" 3 [] (fun ds _ => ds) mof_numbers) : FnG P w K mg base (L2.CX P w) 3 f fd ["stand", "marks"] (spM ⟨K, mg⟩ (["stand", "marks"] : List Str).length mmarked) := (fn_okX Fmarked scmarked fun cdv A outer s H E hr =>
    (s_cons (s_set 2 (SO.own e_dict0) scmarked.nd)
    (s_cons (s_for rfl (i_items (e_fld T.k_Stand.V (e_var 0))) (g_tup rfl (gs_cons (gn_name 3 scmarked.nd) (gs_cons (gn_name 4 scmarked.nd) gs_nil))) (s_one (s_dput hr.r (e_var 2) (e_var 3) (e_calG Cof_numbers_3 (hr.mono (by decide)) (takes_of rfl rfl rfl rfl) (a_cons (e_var 4) (a_cons e_str (a_cons (e_tup (a_cons (e_ixD hr.r (e_var 1) (e_var 3)) (a_cons (e_ixD hr.r (e_var 1) (e_var 3)) a_nil))) a_nil))) k_nil))) (passes_of rfl))
    (s_one (s_ret (e_frz (e_makG QStand_m___init___2 (hr.mono (by decide)) (takes_of rfl rfl rfl rfl) (a_cons (e_frz (e_var 2)) (a_cons (e_fld T.k_Stand.V (e_var 0)) a_nil)) k_nil)))))))
abbrev stCourse_m___init__ : Stmt := mthS (topS 89) 0
abbrev NCourse_m___init__ : List Str := ["self", "stand", "moments", "marks", "lasting"]
theorem scCourse_m___init__ : FnScope NCourse_m___init__ ["self", "stand", "moments", "marks", "lasting"] (defScope stCourse_m___init__) := ⟨rfl, rfl, rfl, by decide +kernel, rfl, by decide +kernel, by decide +kernel⟩
noncomputable def bCourse_m___init__ : MS :=
    (mSeq (mFldS "Course" "stand" (mVar 0) (mVar 1))
    (mSeq (mFldS "Course" "moments" (mVar 0) (mVar 2))
    (mSeq (mFldS "Course" "marks" (mVar 0) (mVar 3))
    (mSeq (mFldS "Course" "lasts" (mVar 0) (mVar 4))
    (mSeq (mFldS "Course" "begun" (mVar 0) (mOwn mDictT))
    (mFldS "Course" "told_steps" (mVar 0) (mOwn (mLst aNil))))))))
noncomputable def mCourse_m___init__ : List D → Hd → Res D := runB 5 bCourse_m___init__
theorem okCourse_m___init__ (T : Txt K w mg) {f : Addr} {fd : FuncData} (FCourse_m___init__ : DefX K mg "__init__" "Course.__init__" stCourse_m___init__ [] [] f fd)  : FnG P w K mg base (L2.CX P w) 1 f fd ["self", "stand", "moments", "marks", "lasting"] (spM ⟨K, mg⟩ (["self", "stand", "moments", "marks", "lasting"] : List Str).length mCourse_m___init__) := (fn_okX FCourse_m___init__ scCourse_m___init__ fun cdv A outer s H E hr =>
    (s_cons (s_fld T.k_Course.V T.k_Course.na (e_var 0) (e_var 1))
    (s_cons (s_fld T.k_Course.V T.k_Course.na (e_var 0) (e_var 2))
    (s_cons (s_fld T.k_Course.V T.k_Course.na (e_var 0) (e_var 3))
    (s_cons (s_fld T.k_Course.V T.k_Course.na (e_var 0) (e_var 4))
    (s_cons (s_fld T.k_Course.V T.k_Course.na (e_var 0) (SO.own e_dictT))
    (s_one (s_fld T.k_Course.V T.k_Course.na (e_var 0) (SO.own (e_lst a_nil))))))))))
abbrev stCourse_m_left_in : Stmt := mthS (topS 89) 1
abbrev NCourse_m_left_in : List Str := ["self", "layer", "gone", "name"]
theorem scCourse_m_left_in : FnScope NCourse_m_left_in ["self", "layer", "gone"] (defScope stCourse_m_left_in) := ⟨rfl, rfl, rfl, by decide +kernel, rfl, by decide +kernel, by decide +kernel⟩
noncomputable def bCourse_m_left_in : MS :=
    (mRet (mFz (mBi srtGF (aCons (mFz (mLc [3] (mIterD (mCalG 4 0 (fun ds _ => ds) mstanding (aCons (mFld "Course" "stand" (mVar 0)) (aCons (mVar 1) (aCons (mFld "Course" "lasts" (mVar 0)) (aCons (mFld "Course" "begun" (mVar 0)) aNil)))) aNil)) (gSet 3) (mCmp cNotInD (mVar 3) (mVar 2)) (mVar 3))) aNil))))
noncomputable def mCourse_m_left_in : List D → Hd → Res D := runB 4 bCourse_m_left_in
theorem okCourse_m_left_in (T : Txt K w mg) {f : Addr} {fd : FuncData} (FCourse_m_left_in : DefX K mg "left_in" "Course.left_in" stCourse_m_left_in [] [] f fd) (Cstanding_4 : CalG P w K mg base 2 "standing" 4 [] (fun ds _ => ds) mstanding) : FnG P w K mg base (L2.CX P w) 3 f fd ["self", "layer", "gone"] (spM ⟨K, mg⟩ (["self", "layer", "gone"] : List Str).length mCourse_m_left_in) := (fn_okX FCourse_m_left_in scCourse_m_left_in fun cdv A outer s H E hr =>
    (s_one (s_ret (SO.fz (e_bi (cr_srtG hr.r rfl) s_srtG T.b_sorted PyProof.Rows.boot_sorted (a_cons (SO.fz (e_lc rfl scCourse_m_left_in.nd (i_anyD (e_calG Cstanding_4 (hr.mono (by decide)) (takes_of rfl rfl rfl rfl) (a_cons (e_fld T.k_Course.V (e_var 0)) (a_cons (e_var 1) (a_cons (e_fld T.k_Course.V (e_var 0)) (a_cons (e_fld T.k_Course.V (e_var 0)) a_nil)))) k_nil)) (blkOk_by (own := [("name", 3)]) (N := NCourse_m_left_in) (sc := defScope stCourse_m_left_in) (by decide +kernel)) (fun _ _ _ _ _ => (g_name 3 scCourse_m_left_in.nd)) (fun _ _ _ _ _ => (ts_one (t_notinDD hr.r (e_var 3) (e_var 2)))) (fun _ _ _ _ _ => (e_var 3)))) a_nil))))))
abbrev stCourse_m_waits_in : Stmt := mthS (topS 89) 2
abbrev NCourse_m_waits_in : List Str := ["self", "layer", "gone", "left"]
theorem scCourse_m_waits_in : FnScope NCourse_m_waits_in ["self", "layer", "gone"] (defScope stCourse_m_waits_in) := ⟨rfl, rfl, rfl, by decide +kernel, rfl, by decide +kernel, by decide +kernel⟩
noncomputable def bCourse_m_waits_in : MS :=
    mBadS
noncomputable def mCourse_m_waits_in : List D → Hd → Res D := runB 4 bCourse_m_waits_in
theorem okCourse_m_waits_in (T : Txt K w mg) {f : Addr} {fd : FuncData} (FCourse_m_waits_in : DefX K mg "waits_in" "Course.waits_in" stCourse_m_waits_in [] [] f fd)  : FnG P w K mg base (L2.CX P w) 1 f fd ["self", "layer", "gone"] (spM ⟨K, mg⟩ (["self", "layer", "gone"] : List Str).length mCourse_m_waits_in) := (fn_okX FCourse_m_waits_in scCourse_m_waits_in fun cdv A outer s H E hr =>
    ss_bad)
abbrev stCourse_m_count_marks : Stmt := mthS (topS 89) 3
abbrev NCourse_m_count_marks : List Str := ["self"]
theorem scCourse_m_count_marks : FnScope NCourse_m_count_marks ["self"] (defScope stCourse_m_count_marks) := ⟨rfl, rfl, rfl, by decide +kernel, rfl, by decide +kernel, by decide +kernel⟩
noncomputable def bCourse_m_count_marks : MS :=
    (mFldS "Course" "stand" (mVar 0) (mCalG 2 0 (fun ds _ => ds) mmarked (aCons (mFld "Course" "stand" (mVar 0)) (aCons (mFld "Course" "marks" (mVar 0)) aNil)) aNil))
noncomputable def mCourse_m_count_marks : List D → Hd → Res D := runB 1 bCourse_m_count_marks
theorem okCourse_m_count_marks (T : Txt K w mg) {f : Addr} {fd : FuncData} (FCourse_m_count_marks : DefX K mg "count_marks" "Course.count_marks" stCourse_m_count_marks [] [] f fd) (Cmarked_2 : CalG P w K mg base 3 "marked" 2 [] (fun ds _ => ds) mmarked) : FnG P w K mg base (L2.CX P w) 4 f fd ["self"] (spM ⟨K, mg⟩ (["self"] : List Str).length mCourse_m_count_marks) := (fn_okX FCourse_m_count_marks scCourse_m_count_marks fun cdv A outer s H E hr =>
    (s_one (s_fld T.k_Course.V T.k_Course.na (e_var 0) (e_calG Cmarked_2 (hr.mono (by decide)) (takes_of rfl rfl rfl rfl) (a_cons (e_fld T.k_Course.V (e_var 0)) (a_cons (e_fld T.k_Course.V (e_var 0)) a_nil)) k_nil))))
abbrev stCourse_m_go_on : Stmt := mthS (topS 89) 4
abbrev NCourse_m_go_on : List Str := ["self", "layer", "waits", "name", "one", "told"]
theorem scCourse_m_go_on : FnScope NCourse_m_go_on ["self", "layer", "waits"] (defScope stCourse_m_go_on) := ⟨rfl, rfl, rfl, by decide +kernel, rfl, by decide +kernel, by decide +kernel⟩
noncomputable def bCourse_m_go_on : MS :=
    mBadS
noncomputable def mCourse_m_go_on : List D → Hd → Res D := runB 6 bCourse_m_go_on
theorem okCourse_m_go_on (T : Txt K w mg) {f : Addr} {fd : FuncData} (FCourse_m_go_on : DefX K mg "go_on" "Course.go_on" stCourse_m_go_on [] [] f fd)  : FnG P w K mg base (L2.CX P w) 1 f fd ["self", "layer", "waits"] (spM ⟨K, mg⟩ (["self", "layer", "waits"] : List Str).length mCourse_m_go_on) := (fn_okX FCourse_m_go_on scCourse_m_go_on fun cdv A outer s H E hr =>
    ss_bad)
abbrev stbegun_course : Stmt := topS 92
abbrev Nbegun_course : List Str := ["things", "lasting", "looks", "number", "hand", "moment", "card", "marks", "moments", "many"]
theorem scbegun_course : FnScope Nbegun_course ["things", "lasting"] (defScope stbegun_course) := ⟨rfl, rfl, rfl, by decide +kernel, rfl, by decide +kernel, by decide +kernel⟩
noncomputable def bbegun_course : MS :=
    (mSeq (mLk 0 (mSet 2 (mOwn (mDc false [3, 4, 5, 6, 7] (mItems (mVar 0)) (gTupM 2 (gsCons (gSet 3) (gsCons (gTupM 4 (gsCons (gSet 4) (gsCons (gSet 5) (gsCons (gSet 6) (gsCons (gSet 7) gsNil))))) gsNil))) tYesM (mVar 3) (mCalG 4 0 (fun ds _ => ds) mfirst_look (aCons (mVar 3) (aCons (mVar 4) (aCons (mVar 5) (aCons (mVar 6) aNil)))) aNil)))))
    (mSeq (mLk 0 (mSet 8 (mOwn (mDc false [3, 4, 5, 6, 7] (mItems (mVar 0)) (gTupM 2 (gsCons (gSet 3) (gsCons (gTupM 4 (gsCons (gSet 4) (gsCons (gSet 5) (gsCons (gSet 6) (gsCons (gSet 7) gsNil))))) gsNil))) tYesM (mVar 3) (mVar 5)))))
    (mSeq (mLk 0 (mSet 7 (mOwn (mDc false [3, 4, 5, 6, 9] (mItems (mVar 0)) (gTupM 2 (gsCons (gSet 3) (gsCons (gTupM 4 (gsCons (gSet 4) (gsCons (gSet 5) (gsCons (gSet 6) (gsCons (gSet 9) gsNil))))) gsNil))) tYesM (mVar 3) (mVar 9)))))
    (mRet (mMakG "Course" 4 0 (fun ds _ => ds) mCourse_m___init__ (aCons (mFrz (mMakG "Stand" 2 0 (fun ds _ => ds) mStand_m___init__ (aCons (mFrz (mVar 2)) (aCons (mC (.int (10))) aNil)) aNil)) (aCons (mVar 8) (aCons (mVar 7) (aCons (mFz (mBi listDF (aCons (mVar 1) aNil))) aNil)))) aNil)))))
noncomputable def mbegun_course : List D → Hd → Res D := runB 10 bbegun_course
theorem okbegun_course (T : Txt K w mg) {f : Addr} {fd : FuncData} (Fbegun_course : DefX K mg "begun_course" "begun_course" stbegun_course [] [] f fd) (QStand_m___init___2 : MakG P w K mg base 1 "Stand" 2 [] (fun ds _ => ds) mStand_m___init__) (Cfirst_look_4 : CalG P w K mg base 1 "first_look" 4 [] (fun ds _ => ds) mfirst_look) (QCourse_m___init___4 : MakG P w K mg base 1 "Course" 4 [] (fun ds _ => ds) mCourse_m___init__) : FnG P w K mg base (L2.CX P w) 3 f fd ["things", "lasting"] (spM ⟨K, mg⟩ (["things", "lasting"] : List Str).length mbegun_course) := (fn_okX Fbegun_course scbegun_course fun cdv A outer s H E hr =>
    (s_cons (s_lock 0 (s_dcOwn false 2 hr.r rfl scbegun_course.nd (i_items (e_var 0)) (blkOk_by (own := [("number", 3), ("hand", 4), ("moment", 5), ("card", 6), ("marks", 7)]) (N := Nbegun_course) (sc := defScope stbegun_course) (by decide +kernel)) (fun _ _ _ _ _ => (g_tup rfl (gs_cons (gn_name 3 scbegun_course.nd) (gs_cons (gn_tup rfl (gs_cons (gn_name 4 scbegun_course.nd) (gs_cons (gn_name 5 scbegun_course.nd) (gs_cons (gn_name 6 scbegun_course.nd) (gs_cons (gn_name 7 scbegun_course.nd) gs_nil))))) gs_nil)))) (fun _ _ _ _ _ => ts_nil) (fun _ _ _ _ _ => (e_var 3)) (fun _ _ _ _ _ => (e_calG Cfirst_look_4 (hr.mono (by decide)) takes0 (a_cons (e_var 3) (a_cons (e_var 4) (a_cons (e_var 5) (a_cons (e_var 6) a_nil)))) k_nil))))
    (s_cons (s_lock 0 (s_dcOwn false 8 hr.r rfl scbegun_course.nd (i_items (e_var 0)) (blkOk_by (own := [("number", 3), ("hand", 4), ("moment", 5), ("card", 6), ("marks", 7)]) (N := Nbegun_course) (sc := defScope stbegun_course) (by decide +kernel)) (fun _ _ _ _ _ => (g_tup rfl (gs_cons (gn_name 3 scbegun_course.nd) (gs_cons (gn_tup rfl (gs_cons (gn_name 4 scbegun_course.nd) (gs_cons (gn_name 5 scbegun_course.nd) (gs_cons (gn_name 6 scbegun_course.nd) (gs_cons (gn_name 7 scbegun_course.nd) gs_nil))))) gs_nil)))) (fun _ _ _ _ _ => ts_nil) (fun _ _ _ _ _ => (e_var 3)) (fun _ _ _ _ _ => (e_var 5))))
    (s_cons (s_lock 0 (s_dcOwn false 7 hr.r rfl scbegun_course.nd (i_items (e_var 0)) (blkOk_by (own := [("number", 3), ("hand", 4), ("moment", 5), ("card", 6), ("many", 9)]) (N := Nbegun_course) (sc := defScope stbegun_course) (by decide +kernel)) (fun _ _ _ _ _ => (g_tup rfl (gs_cons (gn_name 3 scbegun_course.nd) (gs_cons (gn_tup rfl (gs_cons (gn_name 4 scbegun_course.nd) (gs_cons (gn_name 5 scbegun_course.nd) (gs_cons (gn_name 6 scbegun_course.nd) (gs_cons (gn_name 9 scbegun_course.nd) gs_nil))))) gs_nil)))) (fun _ _ _ _ _ => ts_nil) (fun _ _ _ _ _ => (e_var 3)) (fun _ _ _ _ _ => (e_var 9))))
    (s_one (s_ret (e_makG QCourse_m___init___4 (hr.mono (by decide)) (takes_of rfl rfl rfl rfl) (a_cons (e_frz (e_makG QStand_m___init___2 (hr.mono (by decide)) (takes_of rfl rfl rfl rfl) (a_cons (e_frz (e_var 2)) (a_cons (e_globI T.c_CAME) a_nil)) k_nil)) (a_cons (e_var 8) (a_cons (e_var 7) (a_cons (SO.fz (e_bt (cr_listD rfl) s_listD T.b_list PyProof.Rows.boot_list (a_cons (e_var 1) a_nil))) a_nil)))) k_nil)))))))
abbrev sttold_looks : Stmt := topS 93
abbrev Ntold_looks : List Str := ["stand", "number"]
theorem sctold_looks : FnScope Ntold_looks ["stand"] (defScope sttold_looks) := ⟨rfl, rfl, rfl, by decide +kernel, rfl, by decide +kernel, by decide +kernel⟩
noncomputable def btold_looks : MS :=
    (mRet (mOwn (mDc false [1] (mIterD (mFz (mBi srtGF (aCons (mFld "Stand" "shown" (mVar 0)) aNil)))) (gSet 1) tYesM (mVar 1) (mCalG 1 0 (fun ds _ => ds) mplain_look (aCons (mIxD (mFld "Stand" "shown" (mVar 0)) (mVar 1)) aNil) aNil))))
noncomputable def mtold_looks : List D → Hd → Res D := runB 2 btold_looks
theorem oktold_looks (T : Txt K w mg) {f : Addr} {fd : FuncData} (Ftold_looks : DefX K mg "told_looks" "told_looks" sttold_looks [] [] f fd) (Cplain_look_1 : CalG P w K mg base 2 "plain_look" 1 [] (fun ds _ => ds) mplain_look) : FnG P w K mg base (L2.CX P w) 3 f fd ["stand"] (spM ⟨K, mg⟩ (["stand"] : List Str).length mtold_looks) := (fn_okX Ftold_looks sctold_looks fun cdv A outer s H E hr =>
    (s_one (s_ret (SO.own (e_dc false hr.r rfl sctold_looks.nd (i_anyD (SO.fz (e_bi (cr_srtG hr.r rfl) s_srtG T.b_sorted PyProof.Rows.boot_sorted (a_cons (e_fld T.k_Stand.V (e_var 0)) a_nil)))) (blkOk_by (own := [("number", 1)]) (N := Ntold_looks) (sc := defScope sttold_looks) (by decide +kernel)) (fun _ _ _ _ _ => (g_name 1 sctold_looks.nd)) (fun _ _ _ _ _ => ts_nil) (fun _ _ _ _ _ => (e_var 1)) (fun _ _ _ _ _ => (e_calG Cplain_look_1 (hr.mono (by decide)) takes0 (a_cons (e_ixD hr.r (e_fld T.k_Stand.V (e_var 0)) (e_var 1)) a_nil) k_nil)))))))
abbrev stSheet_m_go_through : Stmt := mthS (topS 94) 3
abbrev NSheet_m_go_through : List Str := ["self", "course", "layer", "gone", "waits"]
theorem scSheet_m_go_through : FnScope NSheet_m_go_through ["self", "course", "layer"] (defScope stSheet_m_go_through) := ⟨rfl, rfl, rfl, by decide +kernel, rfl, by decide +kernel, by decide +kernel⟩
noncomputable def bSheet_m_go_through : MS :=
    (mSeq (mIfS (mCmp cEq (mVar 2) (mC (.int (8)))) (mExpr (mMthG "Course" 0 0 (fun ds _ => ds) mCourse_m_count_marks (mVar 1) aNil aNil)) mNil)
    (mSeq (mSet 3 (mOwn (mLst aNil)))
    (mWhile (mCmp cNe (mMthG "Course" 2 0 (fun ds _ => ds) mCourse_m_left_in (mVar 1) (aCons (mVar 2) (aCons (mVar 3) aNil)) aNil) (mFz (mLst aNil))) (mSeq (mSet 4 (mMthG "Course" 2 0 (fun ds _ => ds) mCourse_m_waits_in (mVar 1) (aCons (mVar 2) (aCons (mVar 3) aNil)) aNil))
    (mSeq (mExpr (mFz (mMeth isOwnL appF (mFld "Sheet" "stands" (mVar 0)) (aCons (mFld "Course" "stand" (mVar 1)) aNil))))
    (mSeq (mExpr (mFz (mMeth isOwnL appF (mFld "Sheet" "waits_told" (mVar 0)) (aCons (mVar 4) aNil))))
    (mExpr (mFz (mMeth isOwnL appF (mVar 3) (aCons (mMthG "Course" 2 0 (fun ds _ => ds) mCourse_m_go_on (mVar 1) (aCons (mVar 2) (aCons (mVar 4) aNil)) aNil) aNil))))))))))
noncomputable def mSheet_m_go_through : List D → Hd → Res D := runB 5 bSheet_m_go_through
theorem okSheet_m_go_through (T : Txt K w mg) {f : Addr} {fd : FuncData} (FSheet_m_go_through : DefX K mg "go_through" "Sheet.go_through" stSheet_m_go_through [] [] f fd) (MCourse_m_left_in_2 : MthG P w K mg base 3 "Course" "left_in" 2 [] (fun ds _ => ds) mCourse_m_left_in) (MCourse_m_waits_in_2 : MthG P w K mg base 1 "Course" "waits_in" 2 [] (fun ds _ => ds) mCourse_m_waits_in) (MCourse_m_count_marks_0 : MthG P w K mg base 4 "Course" "count_marks" 0 [] (fun ds _ => ds) mCourse_m_count_marks) (MCourse_m_go_on_2 : MthG P w K mg base 1 "Course" "go_on" 2 [] (fun ds _ => ds) mCourse_m_go_on) : FnG P w K mg base (L2.CX P w) 5 f fd ["self", "course", "layer"] (spM ⟨K, mg⟩ (["self", "course", "layer"] : List Str).length mSheet_m_go_through) := (fn_okX FSheet_m_go_through scSheet_m_go_through fun cdv A outer s H E hr =>
    (s_cons (s_if (t_eq hr.r (e_var 2) (e_globI T.c_MARKED)) (s_one (s_expr (e_mthG0 MCourse_m_count_marks_0 (hr.mono (by decide)) (takes_of rfl rfl rfl rfl) (e_var 1) k_nil))) s_nil)
    (s_cons (s_set 3 (SO.own (e_lst a_nil)) scSheet_m_go_through.nd)
    (s_one (s_while (t_ne hr.r (e_mthG MCourse_m_left_in_2 (hr.mono (by decide)) (takes_of rfl rfl rfl rfl) (e_var 1) (a_cons (e_var 2) (a_cons (e_var 3) a_nil)) k_nil) (SO.fz (e_lst a_nil))) (s_cons (s_set 4 (e_mthG MCourse_m_waits_in_2 (hr.mono (by decide)) (takes_of rfl rfl rfl rfl) (e_var 1) (a_cons (e_var 2) (a_cons (e_var 3) a_nil)) k_nil) scSheet_m_go_through.nd)
    (s_cons (s_expr (SO.fz (e_meth PySem.F.plainAttrs_list PySem.F.slot_list_append PySem.F.type_list_append mt_append isOwnL_ty s_app (e_fld T.k_Sheet.V (e_var 0)) (a_cons (e_fld T.k_Course.V (e_var 1)) a_nil))))
    (s_cons (s_expr (SO.fz (e_meth PySem.F.plainAttrs_list PySem.F.slot_list_append PySem.F.type_list_append mt_append isOwnL_ty s_app (e_fld T.k_Sheet.V (e_var 0)) (a_cons (e_var 4) a_nil))))
    (s_one (s_expr (SO.fz (e_meth PySem.F.plainAttrs_list PySem.F.slot_list_append PySem.F.type_list_append mt_append isOwnL_ty s_app (e_var 3) (a_cons (e_mthG MCourse_m_go_on_2 (hr.mono (by decide)) (takes_of rfl rfl rfl rfl) (e_var 1) (a_cons (e_var 2) (a_cons (e_var 4) a_nil)) k_nil) a_nil)))))))) (passes_of rfl))))))
abbrev stSheet_m___init__ : Stmt := mthS (topS 94) 0
abbrev NSheet_m___init__ : List Str := ["self", "things", "lasting", "course", "layer"]
theorem scSheet_m___init__ : FnScope NSheet_m___init__ ["self", "things", "lasting"] (defScope stSheet_m___init__) := ⟨rfl, rfl, rfl, by decide +kernel, rfl, by decide +kernel, by decide +kernel⟩
noncomputable def bSheet_m___init__ : MS :=
    (mSeq (mSet 3 (mCalG 2 0 (fun ds _ => ds) mbegun_course (aCons (mVar 1) (aCons (mVar 2) aNil)) aNil))
    (mSeq (mFldS "Sheet" "stands" (mVar 0) (mOwn (mLst aNil)))
    (mSeq (mFldS "Sheet" "waits_told" (mVar 0) (mOwn (mLst aNil)))
    (mSeq (mFor (mSrc (fun _ => range2F) (aCons (mC (.int 1)) (aCons (mFz (mBin addF (mC (.int (9))) (mC (.int 1)))) aNil))) (gSet 4) (mExpr (mMthG "Sheet" 2 0 (fun ds _ => ds) mSheet_m_go_through (mVar 0) (aCons (mVar 3) (aCons (mVar 4) aNil)) aNil)))
    (mSeq (mExpr (mFz (mMeth isOwnL appF (mFld "Sheet" "stands" (mVar 0)) (aCons (mFld "Course" "stand" (mVar 3)) aNil))))
    (mFldS "Sheet" "steps_done" (mVar 0) (mFld "Course" "told_steps" (mVar 3))))))))
noncomputable def mSheet_m___init__ : List D → Hd → Res D := runB 5 bSheet_m___init__
theorem okSheet_m___init__ (T : Txt K w mg) {f : Addr} {fd : FuncData} (FSheet_m___init__ : DefX K mg "__init__" "Sheet.__init__" stSheet_m___init__ [] [("lasting", .ktp [])] f fd) (Cbegun_course_2 : CalG P w K mg base 3 "begun_course" 2 [] (fun ds _ => ds) mbegun_course) (MSheet_m_go_through_2 : MthG P w K mg base 5 "Sheet" "go_through" 2 [] (fun ds _ => ds) mSheet_m_go_through) : FnG P w K mg base (L2.CX P w) 6 f fd ["self", "things", "lasting"] (spM ⟨K, mg⟩ (["self", "things", "lasting"] : List Str).length mSheet_m___init__) := (fn_okX FSheet_m___init__ scSheet_m___init__ fun cdv A outer s H E hr =>
    (s_cons (s_set 3 (e_calG Cbegun_course_2 (hr.mono (by decide)) (takes_of rfl rfl rfl rfl) (a_cons (e_var 1) (a_cons (e_var 2) a_nil)) k_nil) scSheet_m___init__.nd)
    (s_cons (s_fld T.k_Sheet.V T.k_Sheet.na (e_var 0) (SO.own (e_lst a_nil)))
    (s_cons (s_fld T.k_Sheet.V T.k_Sheet.na (e_var 0) (SO.own (e_lst a_nil)))
    (s_cons (s_for rfl (i_range2 T.b_range (a_cons e_int (a_cons (SO.fz (o_add (e_globI T.c_LAYERS) e_int)) a_nil))) (g_name 4 scSheet_m___init__.nd) (s_one (s_expr (e_mthG MSheet_m_go_through_2 (hr.mono (by decide)) (takes_of rfl rfl rfl rfl) (e_var 0) (a_cons (e_var 3) (a_cons (e_var 4) a_nil)) k_nil))) (passes_of rfl))
    (s_cons (s_expr (SO.fz (e_meth PySem.F.plainAttrs_list PySem.F.slot_list_append PySem.F.type_list_append mt_append isOwnL_ty s_app (e_fld T.k_Sheet.V (e_var 0)) (a_cons (e_fld T.k_Course.V (e_var 3)) a_nil))))
    (s_one (s_fld T.k_Sheet.V T.k_Sheet.na (e_var 0) (e_fld T.k_Course.V (e_var 3))))))))))
abbrev stSheet_m_looks : Stmt := mthS (topS 94) 7
abbrev NSheet_m_looks : List Str := ["self"]
theorem scSheet_m_looks : FnScope NSheet_m_looks ["self"] (defScope stSheet_m_looks) := ⟨rfl, rfl, rfl, by decide +kernel, rfl, by decide +kernel, by decide +kernel⟩
noncomputable def bSheet_m_looks : MS :=
    (mRet (mCalG 1 0 (fun ds _ => ds) mtold_looks (aCons (mIxD (mFld "Sheet" "stands" (mVar 0)) (mNeg (mC (.int 1)))) aNil) aNil))
noncomputable def mSheet_m_looks : List D → Hd → Res D := runB 1 bSheet_m_looks
theorem okSheet_m_looks (T : Txt K w mg) {f : Addr} {fd : FuncData} (FSheet_m_looks : DefX K mg "looks" "Sheet.looks" stSheet_m_looks [] [] f fd) (Ctold_looks_1 : CalG P w K mg base 3 "told_looks" 1 [] (fun ds _ => ds) mtold_looks) : FnG P w K mg base (L2.CX P w) 4 f fd ["self"] (spM ⟨K, mg⟩ (["self"] : List Str).length mSheet_m_looks) := (fn_okX FSheet_m_looks scSheet_m_looks fun cdv A outer s H E hr =>
    (s_one (s_ret (e_calG Ctold_looks_1 (hr.mono (by decide)) (takes_of rfl rfl rfl rfl) (a_cons (e_ixD hr.r (e_fld T.k_Sheet.V (e_var 0)) (e_neg e_int)) a_nil) k_nil))))
abbrev stSheet_m_steps : Stmt := mthS (topS 94) 9
abbrev NSheet_m_steps : List Str := ["self"]
theorem scSheet_m_steps : FnScope NSheet_m_steps ["self"] (defScope stSheet_m_steps) := ⟨rfl, rfl, rfl, by decide +kernel, rfl, by decide +kernel, by decide +kernel⟩
noncomputable def bSheet_m_steps : MS :=
    (mRet (mFz (mBi listDF (aCons (mFld "Sheet" "steps_done" (mVar 0)) aNil))))
noncomputable def mSheet_m_steps : List D → Hd → Res D := runB 1 bSheet_m_steps
theorem okSheet_m_steps (T : Txt K w mg) {f : Addr} {fd : FuncData} (FSheet_m_steps : DefX K mg "steps" "Sheet.steps" stSheet_m_steps [] [] f fd)  : FnG P w K mg base (L2.CX P w) 1 f fd ["self"] (spM ⟨K, mg⟩ (["self"] : List Str).length mSheet_m_steps) := (fn_okX FSheet_m_steps scSheet_m_steps fun cdv A outer s H E hr =>
    (s_one (s_ret (SO.fz (e_bt (cr_listD rfl) s_listD T.b_list PyProof.Rows.boot_list (a_cons (e_fld T.k_Sheet.V (e_var 0)) a_nil))))))
abbrev ston_board : Stmt := topS 99
abbrev Non_board : List Str := ["things", "found", "number", "thing"]
theorem scon_board : FnScope Non_board ["things"] (defScope ston_board) := ⟨rfl, rfl, rfl, by decide +kernel, rfl, by decide +kernel, by decide +kernel⟩
noncomputable def bon_board : MS :=
    (mSeq (mSet 1 (mOwn mDict0))
    (mSeq (mFor (mItems (mVar 0)) (gTupM 2 (gsCons (gSet 2) (gsCons (gSet 3) gsNil))) (mIfS (mCmp cEq (mIxD (mVar 3) (mC (.str "place"))) (mC (.str "board"))) (mDPut (mVar 1) (mVar 2) (mTup (aCons (mIxD (mVar 3) (mC (.str "hand"))) (aCons (mIxD (mVar 3) (mC (.str "moment"))) (aCons (mIxD (mVar 3) (mC (.str "card"))) (aCons (mIxD (mVar 3) (mC (.str "marks"))) aNil)))))) mNil))
    (mRet (mVar 1))))
noncomputable def mon_board : List D → Hd → Res D := runB 4 bon_board
theorem okon_board (T : Txt K w mg) {f : Addr} {fd : FuncData} (Fon_board : DefX K mg "on_board" "on_board" ston_board [] [] f fd)  : FnG P w K mg base (L2.CX P w) 1 f fd ["things"] (spM ⟨K, mg⟩ (["things"] : List Str).length mon_board) := (fn_okX Fon_board scon_board fun cdv A outer s H E hr =>
    (s_cons (s_set 1 (SO.own e_dict0) scon_board.nd)
    (s_cons (s_for rfl (i_items (e_var 0)) (g_tup rfl (gs_cons (gn_name 2 scon_board.nd) (gs_cons (gn_name 3 scon_board.nd) gs_nil))) (s_one (s_if (t_eq hr.r (e_ixD hr.r (e_var 3) e_str) e_str) (s_one (s_dput hr.r (e_var 1) (e_var 2) (e_tup (a_cons (e_ixD hr.r (e_var 3) e_str) (a_cons (e_ixD hr.r (e_var 3) e_str) (a_cons (e_ixD hr.r (e_var 3) e_str) (a_cons (e_ixD hr.r (e_var 3) e_str) a_nil))))))) s_nil)) (passes_of rfl))
    (s_one (s_ret (e_var 1))))))
abbrev stsheet_of : Stmt := topS 100
abbrev Nsheet_of : List Str := ["now", "lasting", "moment", "hand", "who", "change", "until"]
theorem scsheet_of : FnScope Nsheet_of ["now"] (defScope stsheet_of) := ⟨rfl, rfl, rfl, by decide +kernel, rfl, by decide +kernel, by decide +kernel⟩
noncomputable def bsheet_of : MS :=
    (mSeq (mSet 1 (mFz (mLc [2, 3, 4, 5, 6] (mIterD (mIxD (mVar 0) (mC (.str "lasting")))) (gTupM 5 (gsCons (gSet 2) (gsCons (gSet 3) (gsCons (gSet 4) (gsCons (gSet 5) (gsCons (gSet 6) gsNil)))))) tYesM (mTup (aCons (mVar 2) (aCons (mVar 3) (aCons (mVar 4) (aCons (mVar 5) aNil))))))))
    (mRet (mMakG "Sheet" 1 1 (fun ds es => pickL [0, 1, 2] (ds ++ es)) mSheet_m___init__ (aCons (mCalG 1 0 (fun ds _ => ds) mon_board (aCons (mIxD (mVar 0) (mC (.str "things"))) aNil) aNil) aNil) (aCons (mVar 1) aNil))))
noncomputable def msheet_of : List D → Hd → Res D := runB 7 bsheet_of
theorem oksheet_of (T : Txt K w mg) {f : Addr} {fd : FuncData} (Fsheet_of : DefX K mg "sheet_of" "sheet_of" stsheet_of [] [] f fd) (QSheet_m___init___1_lasting : MakG P w K mg base 6 "Sheet" 1 ["lasting"] (fun ds es => pickL [0, 1, 2] (ds ++ es)) mSheet_m___init__) (Con_board_1 : CalG P w K mg base 1 "on_board" 1 [] (fun ds _ => ds) mon_board) : FnG P w K mg base (L2.CX P w) 8 f fd ["now"] (spM ⟨K, mg⟩ (["now"] : List Str).length msheet_of) := (fn_okX Fsheet_of scsheet_of fun cdv A outer s H E hr =>
    (s_cons (s_lcFz 1 rfl scsheet_of.nd (i_anyD (e_ixD hr.r (e_var 0) e_str)) (blkOk_by (own := [("moment", 2), ("hand", 3), ("who", 4), ("change", 5), ("until", 6)]) (N := Nsheet_of) (sc := defScope stsheet_of) (by decide +kernel)) (fun _ _ _ _ _ => (g_tup rfl (gs_cons (gn_name 2 scsheet_of.nd) (gs_cons (gn_name 3 scsheet_of.nd) (gs_cons (gn_name 4 scsheet_of.nd) (gs_cons (gn_name 5 scsheet_of.nd) (gs_cons (gn_name 6 scsheet_of.nd) gs_nil))))))) (fun _ _ _ _ _ => ts_nil) (fun _ _ _ _ _ => (e_tup (a_cons (e_var 2) (a_cons (e_var 3) (a_cons (e_var 4) (a_cons (e_var 5) a_nil)))))))
    (s_one (s_ret (e_makG QSheet_m___init___1_lasting (hr.mono (by decide)) (takes_of rfl rfl rfl rfl) (a_cons (e_calG Con_board_1 (hr.mono (by decide)) (takes_of rfl rfl rfl rfl) (a_cons (e_ixD hr.r (e_var 0) e_str) a_nil) k_nil) a_nil) (k_cons (e_var 1) k_nil))))))
abbrev stneed_thing : Stmt := topS 115
abbrev Nneed_thing : List Str := ["now", "number"]
theorem scneed_thing : FnScope Nneed_thing ["now", "number"] (defScope stneed_thing) := ⟨rfl, rfl, rfl, by decide +kernel, rfl, by decide +kernel, by decide +kernel⟩
noncomputable def bneed_thing : MS :=
    (mIfS (mOr (mNot (mTru (mCalG 3 0 (fun ds _ => ds) mis_part (aCons (mC (.str "t")) (aCons (mVar 1) (aCons (mC (.int 1)) aNil))) aNil))) (mCmp cNotInD (mVar 1) (mIxD (mVar 0) (mC (.str "things"))))) mBadS mNil)
noncomputable def mneed_thing : List D → Hd → Res D := runB 2 bneed_thing
theorem okneed_thing (T : Txt K w mg) {f : Addr} {fd : FuncData} (Fneed_thing : DefX K mg "need_thing" "need_thing" stneed_thing [] [] f fd) (Cis_part_3 : CalG P w K mg base 15 "is_part" 3 [] (fun ds _ => ds) mis_part) : FnG P w K mg base (L2.CX P w) 16 f fd ["now", "number"] (spM ⟨K, mg⟩ (["now", "number"] : List Str).length mneed_thing) := (fn_okX Fneed_thing scneed_thing fun cdv A outer s H E hr =>
    (s_one (s_if (t_w (w_or (t_not (t_tru (e_calG Cis_part_3 (hr.mono (by decide)) (takes_of rfl rfl rfl rfl) (a_cons e_str (a_cons (e_var 1) (a_cons e_int a_nil))) k_nil))) (w_or1 (t_notinDD hr.r (e_var 1) (e_ixD hr.r (e_var 0) e_str))))) (s_one s_bad) s_nil)))
abbrev stthere : Stmt := topS 117
abbrev Nthere : List Str := ["now", "number"]
theorem scthere : FnScope Nthere ["now"] (defScope stthere) := ⟨rfl, rfl, rfl, by decide +kernel, rfl, by decide +kernel, by decide +kernel⟩
noncomputable def bthere : MS :=
    (mRet (mFz (mLc [1] (mIterD (mFz (mBi srtGF (aCons (mIxD (mVar 0) (mC (.str "things"))) aNil)))) (gSet 1) (mCmp cEq (mIxD (mIxD (mIxD (mVar 0) (mC (.str "things"))) (mVar 1)) (mC (.str "place"))) (mC (.str "board"))) (mVar 1))))
noncomputable def mthere : List D → Hd → Res D := runB 2 bthere
theorem okthere (T : Txt K w mg) {f : Addr} {fd : FuncData} (Fthere : DefX K mg "there" "there" stthere [] [] f fd)  : FnG P w K mg base (L2.CX P w) 1 f fd ["now"] (spM ⟨K, mg⟩ (["now"] : List Str).length mthere) := (fn_okX Fthere scthere fun cdv A outer s H E hr =>
    (s_one (s_ret (SO.fz (e_lc rfl scthere.nd (i_anyD (SO.fz (e_bi (cr_srtG hr.r rfl) s_srtG T.b_sorted PyProof.Rows.boot_sorted (a_cons (e_ixD hr.r (e_var 0) e_str) a_nil)))) (blkOk_by (own := [("number", 1)]) (N := Nthere) (sc := defScope stthere) (by decide +kernel)) (fun _ _ _ _ _ => (g_name 1 scthere.nd)) (fun _ _ _ _ _ => (ts_one (t_eq hr.r (e_ixD hr.r (e_ixD hr.r (e_ixD hr.r (e_var 0) e_str) (e_var 1)) e_str) e_str))) (fun _ _ _ _ _ => (e_var 1)))))))
abbrev stTable_m___init__ : Stmt := mthS (topS 130) 0
abbrev NTable_m___init__ : List Str := ["self", "hands"]
theorem scTable_m___init__ : FnScope NTable_m___init__ ["self", "hands"] (defScope stTable_m___init__) := ⟨rfl, rfl, rfl, by decide +kernel, rfl, by decide +kernel, by decide +kernel⟩
noncomputable def bTable_m___init__ : MS :=
    (mSeq (mIfS (mNot (mTru (mCalG 3 0 (fun ds _ => ds) mis_number (aCons (mVar 1) (aCons (mC (.int 2)) (aCons (mC (.int (4))) aNil))) aNil))) (mRaise "BadHand") mNil)
    (mSeq (mFldS "Table" "now" (mVar 0) (mFz (mDisp (pCons (mC (.str "hands")) (mVar 1) (pCons (mC (.str "round")) (mC (.int 1)) (pCons (mC (.str "clock")) (mC (.int 0)) (pCons (mC (.str "things")) (mFz mDict0) (pCons (mC (.str "lasting")) (mFz (mLst aNil)) pNil))))))))
    (mSeq (mFldS "Table" "past" (mVar 0) (mOwn (mLst aNil)))
    (mSeq (mFldS "Table" "later" (mVar 0) (mOwn (mLst aNil)))
    (mSeq (mFldS "Table" "kept" (mVar 0) (mC .non))
    (mFldS "Table" "at_work" (mVar 0) (mC (.bl false))))))))
noncomputable def mTable_m___init__ : List D → Hd → Res D := runB 2 bTable_m___init__
theorem okTable_m___init__ (T : Txt K w mg) {f : Addr} {fd : FuncData} (FTable_m___init__ : DefX K mg "__init__" "Table.__init__" stTable_m___init__ [] [("hands", .int (2))] f fd) (Cis_number_3 : CalG P w K mg base 1 "is_number" 3 [] (fun ds _ => ds) mis_number) : FnG P w K mg base (L2.CX P w) 2 f fd ["self", "hands"] (spM ⟨K, mg⟩ (["self", "hands"] : List Str).length mTable_m___init__) := (fn_okX FTable_m___init__ scTable_m___init__ fun cdv A outer s H E hr =>
    (s_cons (s_if (t_not (t_tru (e_calG Cis_number_3 (hr.mono (by decide)) (takes_of rfl rfl rfl rfl) (a_cons (e_var 1) (a_cons e_int (a_cons (e_globI T.c_MOST_HANDS) a_nil))) k_nil))) (s_one (s_raise T.e_BadHand.choose_spec rfl (takes_of rfl rfl rfl rfl))) s_nil)
    (s_cons (s_fld T.k_Table.V T.k_Table.na (e_var 0) (SO.fz (e_disp (sp_cons e_str (e_var 1) (sp_cons e_str e_int (sp_cons e_str e_int (sp_cons e_str (SO.fz e_dict0) (sp_cons e_str (SO.fz (e_lst a_nil)) sp_nil))))))))
    (s_cons (s_fld T.k_Table.V T.k_Table.na (e_var 0) (SO.own (e_lst a_nil)))
    (s_cons (s_fld T.k_Table.V T.k_Table.na (e_var 0) (SO.own (e_lst a_nil)))
    (s_cons (s_fld T.k_Table.V T.k_Table.na (e_var 0) e_non)
    (s_one (s_fld T.k_Table.V T.k_Table.na (e_var 0) e_bl))))))))
abbrev stTable_m___eq__ : Stmt := mthS (topS 130) 1
abbrev NTable_m___eq__ : List Str := ["self", "other"]
theorem scTable_m___eq__ : FnScope NTable_m___eq__ ["self", "other"] (defScope stTable_m___eq__) := ⟨rfl, rfl, rfl, by decide +kernel, rfl, by decide +kernel, by decide +kernel⟩
noncomputable def bTable_m___eq__ : MS :=
    (mRet (mAndV (mFz (mBi (isoF "Table") (aCons (mVar 1) (aCons (mC (.glb "Table")) aNil)))) (mB (mCmp cEqD (mFld "Table" "now" (mVar 0)) (mFld "Table" "now" (mVar 1))))))
noncomputable def mTable_m___eq__ : List D → Hd → Res D := runB 2 bTable_m___eq__
theorem okTable_m___eq__ (T : Txt K w mg) {f : Addr} {fd : FuncData} (FTable_m___eq__ : DefX K mg "__eq__" "Table.__eq__" stTable_m___eq__ [] [] f fd)  : FnG P w K mg base (L2.CX P w) 1 f fd ["self", "other"] (spM ⟨K, mg⟩ (["self", "other"] : List Str).length mTable_m___eq__) := (fn_okX FTable_m___eq__ scTable_m___eq__ fun cdv A outer s H E hr =>
    (s_one (s_ret (e_and (SO.fz (e_bi call_isi (s_iso T.i_Table.choose_spec) T.b_isinstance PyProof.Rows.boot_isinstance (a_cons (e_var 1) (a_cons (e_cls T.k_Table.V) a_nil)))) (e_one (e_eqD hr.r (e_fld T.k_Table.V (e_var 0)) (e_fld T.k_Table.V (e_var 1))))))))
abbrev stTable_m___len__ : Stmt := mthS (topS 130) 2
abbrev NTable_m___len__ : List Str := ["self"]
theorem scTable_m___len__ : FnScope NTable_m___len__ ["self"] (defScope stTable_m___len__) := ⟨rfl, rfl, rfl, by decide +kernel, rfl, by decide +kernel, by decide +kernel⟩
noncomputable def bTable_m___len__ : MS :=
    (mRet (mFz (mBi lenF (aCons (mCalG 1 0 (fun ds _ => ds) mthere (aCons (mFld "Table" "now" (mVar 0)) aNil) aNil) aNil))))
noncomputable def mTable_m___len__ : List D → Hd → Res D := runB 1 bTable_m___len__
theorem okTable_m___len__ (T : Txt K w mg) {f : Addr} {fd : FuncData} (FTable_m___len__ : DefX K mg "__len__" "Table.__len__" stTable_m___len__ [] [] f fd) (Cthere_1 : CalG P w K mg base 1 "there" 1 [] (fun ds _ => ds) mthere) : FnG P w K mg base (L2.CX P w) 2 f fd ["self"] (spM ⟨K, mg⟩ (["self"] : List Str).length mTable_m___len__) := (fn_okX FTable_m___len__ scTable_m___len__ fun cdv A outer s H E hr =>
    (s_one (s_ret (SO.fz (e_bi call_len s_len T.b_len PySem.boot_len (a_cons (e_calG Cthere_1 (hr.mono (by decide)) (takes_of rfl rfl rfl rfl) (a_cons (e_fld T.k_Table.V (e_var 0)) a_nil) k_nil) a_nil))))))
abbrev stTable_m___repr__ : Stmt := mthS (topS 130) 3
abbrev NTable_m___repr__ : List Str := ["self"]
theorem scTable_m___repr__ : FnScope NTable_m___repr__ ["self"] (defScope stTable_m___repr__) := ⟨rfl, rfl, rfl, by decide +kernel, rfl, by decide +kernel, by decide +kernel⟩
noncomputable def bTable_m___repr__ : MS :=
    (mRet (mJs [(mC (.str "Table(")), (mFmt (mIxD (mFld "Table" "now" (mVar 0)) (mC (.str "hands")))), (mC (.str " hands, ")), (mFmt (mFz (mBi lenF (aCons (mCalG 1 0 (fun ds _ => ds) mthere (aCons (mFld "Table" "now" (mVar 0)) aNil) aNil) aNil)))), (mC (.str " things)"))] Str.empty))
noncomputable def mTable_m___repr__ : List D → Hd → Res D := runB 1 bTable_m___repr__
theorem okTable_m___repr__ (T : Txt K w mg) {f : Addr} {fd : FuncData} (FTable_m___repr__ : DefX K mg "__repr__" "Table.__repr__" stTable_m___repr__ [] [] f fd) (Cthere_1 : CalG P w K mg base 1 "there" 1 [] (fun ds _ => ds) mthere) : FnG P w K mg base (L2.CX P w) 2 f fd ["self"] (spM ⟨K, mg⟩ (["self"] : List Str).length mTable_m___repr__) := (fn_okX FTable_m___repr__ scTable_m___repr__ fun cdv A outer s H E hr =>
    (s_one (s_ret (e_js (sj_cons e_str (sj_cons (e_fmt (e_ixD hr.r (e_fld T.k_Table.V (e_var 0)) e_str)) (sj_cons e_str (sj_cons (e_fmt (SO.fz (e_bi call_len s_len T.b_len PySem.boot_len (a_cons (e_calG Cthere_1 (hr.mono (by decide)) (takes_of rfl rfl rfl rfl) (a_cons (e_fld T.k_Table.V (e_var 0)) a_nil) k_nil) a_nil)))) (sj_cons e_str sj_nil)))))))))
abbrev stTable_m_stand_so : Stmt := mthS (topS 130) 5
abbrev NTable_m_stand_so : List Str := ["self", "now"]
theorem scTable_m_stand_so : FnScope NTable_m_stand_so ["self", "now"] (defScope stTable_m_stand_so) := ⟨rfl, rfl, rfl, by decide +kernel, rfl, by decide +kernel, by decide +kernel⟩
noncomputable def bTable_m_stand_so : MS :=
    (mSeq (mFldS "Table" "now" (mVar 0) (mVar 1))
    (mFldS "Table" "kept" (mVar 0) (mC .non)))
noncomputable def mTable_m_stand_so : List D → Hd → Res D := runB 2 bTable_m_stand_so
theorem okTable_m_stand_so (T : Txt K w mg) {f : Addr} {fd : FuncData} (FTable_m_stand_so : DefX K mg "stand_so" "Table.stand_so" stTable_m_stand_so [] [] f fd)  : FnG P w K mg base (L2.CX P w) 1 f fd ["self", "now"] (spM ⟨K, mg⟩ (["self", "now"] : List Str).length mTable_m_stand_so) := (fn_okX FTable_m_stand_so scTable_m_stand_so fun cdv A outer s H E hr =>
    (s_cons (s_fld T.k_Table.V T.k_Table.na (e_var 0) (e_var 1))
    (s_one (s_fld T.k_Table.V T.k_Table.na (e_var 0) e_non))))
abbrev stTable_m_undo : Stmt := mthS (topS 130) 8
abbrev NTable_m_undo : List Str := ["self", "deed", "order", "stand"]
theorem scTable_m_undo : FnScope NTable_m_undo ["self"] (defScope stTable_m_undo) := ⟨rfl, rfl, rfl, by decide +kernel, rfl, by decide +kernel, by decide +kernel⟩
noncomputable def bTable_m_undo : MS :=
    (mSeq (mIfS (mCmp cEq (mFld "Table" "past" (mVar 0)) (mFz (mLst aNil))) (mRaise "NothingLeft") mNil)
    (mSeq (mAsg (mFz (mMeth0 isOwnL popLF (mFld "Table" "past" (mVar 0)))) (gTupM 3 (gsCons (gSet 1) (gsCons (gSet 2) (gsCons (gSet 3) gsNil)))))
    (mSeq (mExpr (mFz (mMeth isOwnL appF (mFld "Table" "later" (mVar 0)) (aCons (mTup (aCons (mVar 1) (aCons (mVar 2) (aCons (mFld "Table" "now" (mVar 0)) aNil)))) aNil))))
    (mSeq (mExpr (mMthG "Table" 1 0 (fun ds _ => ds) mTable_m_stand_so (mVar 0) (aCons (mVar 3) aNil) aNil))
    (mRet (mVar 1))))))
noncomputable def mTable_m_undo : List D → Hd → Res D := runB 4 bTable_m_undo
theorem okTable_m_undo (T : Txt K w mg) {f : Addr} {fd : FuncData} (FTable_m_undo : DefX K mg "undo" "Table.undo" stTable_m_undo [] [] f fd) (MTable_m_stand_so_1 : MthG P w K mg base 1 "Table" "stand_so" 1 [] (fun ds _ => ds) mTable_m_stand_so) : FnG P w K mg base (L2.CX P w) 2 f fd ["self"] (spM ⟨K, mg⟩ (["self"] : List Str).length mTable_m_undo) := (fn_okX FTable_m_undo scTable_m_undo fun cdv A outer s H E hr =>
    (s_cons (s_if (t_eq hr.r (e_fld T.k_Table.V (e_var 0)) (SO.fz (e_lst a_nil))) (s_one (s_raiseI T.e_NothingLeft.choose_spec rfl (takes_of rfl rfl rfl rfl))) s_nil)
    (s_cons (s_asg (SO.fz (e_meth0 PySem.F.plainAttrs_list PySem.F.slot_list_pop PySem.F.type_list_pop mt_pop isOwnL_ty s_popL (e_fld T.k_Table.V (e_var 0)))) (g_tup rfl (gs_cons (gn_name 1 scTable_m_undo.nd) (gs_cons (gn_name 2 scTable_m_undo.nd) (gs_cons (gn_name 3 scTable_m_undo.nd) gs_nil)))))
    (s_cons (s_expr (SO.fz (e_meth PySem.F.plainAttrs_list PySem.F.slot_list_append PySem.F.type_list_append mt_append isOwnL_ty s_app (e_fld T.k_Table.V (e_var 0)) (a_cons (e_tup (a_cons (e_var 1) (a_cons (e_var 2) (a_cons (e_fld T.k_Table.V (e_var 0)) a_nil)))) a_nil))))
    (s_cons (s_expr (e_mthG MTable_m_stand_so_1 (hr.mono (by decide)) (takes_of rfl rfl rfl rfl) (e_var 0) (a_cons (e_var 3) a_nil) k_nil))
    (s_one (s_ret (e_var 1))))))))
abbrev stTable_m_redo : Stmt := mthS (topS 130) 9
abbrev NTable_m_redo : List Str := ["self", "deed", "order", "stand"]
theorem scTable_m_redo : FnScope NTable_m_redo ["self"] (defScope stTable_m_redo) := ⟨rfl, rfl, rfl, by decide +kernel, rfl, by decide +kernel, by decide +kernel⟩
noncomputable def bTable_m_redo : MS :=
    (mSeq (mIfS (mCmp cEq (mFld "Table" "later" (mVar 0)) (mFz (mLst aNil))) (mRaise "NothingLeft") mNil)
    (mSeq (mAsg (mFz (mMeth0 isOwnL popLF (mFld "Table" "later" (mVar 0)))) (gTupM 3 (gsCons (gSet 1) (gsCons (gSet 2) (gsCons (gSet 3) gsNil)))))
    (mSeq (mExpr (mFz (mMeth isOwnL appF (mFld "Table" "past" (mVar 0)) (aCons (mTup (aCons (mVar 1) (aCons (mVar 2) (aCons (mFld "Table" "now" (mVar 0)) aNil)))) aNil))))
    (mSeq (mExpr (mMthG "Table" 1 0 (fun ds _ => ds) mTable_m_stand_so (mVar 0) (aCons (mVar 3) aNil) aNil))
    (mRet (mVar 1))))))
noncomputable def mTable_m_redo : List D → Hd → Res D := runB 4 bTable_m_redo
theorem okTable_m_redo (T : Txt K w mg) {f : Addr} {fd : FuncData} (FTable_m_redo : DefX K mg "redo" "Table.redo" stTable_m_redo [] [] f fd) (MTable_m_stand_so_1 : MthG P w K mg base 1 "Table" "stand_so" 1 [] (fun ds _ => ds) mTable_m_stand_so) : FnG P w K mg base (L2.CX P w) 2 f fd ["self"] (spM ⟨K, mg⟩ (["self"] : List Str).length mTable_m_redo) := (fn_okX FTable_m_redo scTable_m_redo fun cdv A outer s H E hr =>
    (s_cons (s_if (t_eq hr.r (e_fld T.k_Table.V (e_var 0)) (SO.fz (e_lst a_nil))) (s_one (s_raiseI T.e_NothingLeft.choose_spec rfl (takes_of rfl rfl rfl rfl))) s_nil)
    (s_cons (s_asg (SO.fz (e_meth0 PySem.F.plainAttrs_list PySem.F.slot_list_pop PySem.F.type_list_pop mt_pop isOwnL_ty s_popL (e_fld T.k_Table.V (e_var 0)))) (g_tup rfl (gs_cons (gn_name 1 scTable_m_redo.nd) (gs_cons (gn_name 2 scTable_m_redo.nd) (gs_cons (gn_name 3 scTable_m_redo.nd) gs_nil)))))
    (s_cons (s_expr (SO.fz (e_meth PySem.F.plainAttrs_list PySem.F.slot_list_append PySem.F.type_list_append mt_append isOwnL_ty s_app (e_fld T.k_Table.V (e_var 0)) (a_cons (e_tup (a_cons (e_var 1) (a_cons (e_var 2) (a_cons (e_fld T.k_Table.V (e_var 0)) a_nil)))) a_nil))))
    (s_cons (s_expr (e_mthG MTable_m_stand_so_1 (hr.mono (by decide)) (takes_of rfl rfl rfl rfl) (e_var 0) (a_cons (e_var 3) a_nil) k_nil))
    (s_one (s_ret (e_var 1))))))))
abbrev stTable_m_done : Stmt := mthS (topS 130) 10
abbrev NTable_m_done : List Str := ["self", "deed", "order", "stand"]
theorem scTable_m_done : FnScope NTable_m_done ["self"] (defScope stTable_m_done) := ⟨rfl, rfl, rfl, by decide +kernel, rfl, by decide +kernel, by decide +kernel⟩
noncomputable def bTable_m_done : MS :=
    (mRet (mFz (mLc [1, 2, 3] (mIterD (mFld "Table" "past" (mVar 0))) (gTupM 3 (gsCons (gSet 1) (gsCons (gSet 2) (gsCons (gSet 3) gsNil)))) tYesM (mTup (aCons (mVar 1) (aCons (mVar 2) aNil))))))
noncomputable def mTable_m_done : List D → Hd → Res D := runB 4 bTable_m_done
theorem okTable_m_done (T : Txt K w mg) {f : Addr} {fd : FuncData} (FTable_m_done : DefX K mg "done" "Table.done" stTable_m_done [] [] f fd)  : FnG P w K mg base (L2.CX P w) 1 f fd ["self"] (spM ⟨K, mg⟩ (["self"] : List Str).length mTable_m_done) := (fn_okX FTable_m_done scTable_m_done fun cdv A outer s H E hr =>
    (s_one (s_ret (SO.fz (e_lc rfl scTable_m_done.nd (i_anyD (e_fld T.k_Table.V (e_var 0))) (blkOk_by (own := [("deed", 1), ("order", 2), ("stand", 3)]) (N := NTable_m_done) (sc := defScope stTable_m_done) (by decide +kernel)) (fun _ _ _ _ _ => (g_tup rfl (gs_cons (gn_name 1 scTable_m_done.nd) (gs_cons (gn_name 2 scTable_m_done.nd) (gs_cons (gn_name 3 scTable_m_done.nd) gs_nil))))) (fun _ _ _ _ _ => ts_nil) (fun _ _ _ _ _ => (e_tup (a_cons (e_var 1) (a_cons (e_var 2) a_nil)))))))))
abbrev stTable_m_busy : Stmt := mthS (topS 130) 11
abbrev NTable_m_busy : List Str := ["self"]
theorem scTable_m_busy : FnScope NTable_m_busy ["self"] (defScope stTable_m_busy) := ⟨rfl, rfl, rfl, by decide +kernel, rfl, by decide +kernel, by decide +kernel⟩
noncomputable def bTable_m_busy : MS :=
    (mRet (mFld "Table" "at_work" (mVar 0)))
noncomputable def mTable_m_busy : List D → Hd → Res D := runB 1 bTable_m_busy
theorem okTable_m_busy (T : Txt K w mg) {f : Addr} {fd : FuncData} (FTable_m_busy : DefX K mg "busy" "Table.busy" stTable_m_busy [] [] f fd)  : FnG P w K mg base (L2.CX P w) 1 f fd ["self"] (spM ⟨K, mg⟩ (["self"] : List Str).length mTable_m_busy) := (fn_okX FTable_m_busy scTable_m_busy fun cdv A outer s H E hr =>
    (s_one (s_ret (e_fld T.k_Table.V (e_var 0)))))
abbrev stTable_m_sheet : Stmt := mthS (topS 130) 13
abbrev NTable_m_sheet : List Str := ["self"]
theorem scTable_m_sheet : FnScope NTable_m_sheet ["self"] (defScope stTable_m_sheet) := ⟨rfl, rfl, rfl, by decide +kernel, rfl, by decide +kernel, by decide +kernel⟩
noncomputable def bTable_m_sheet : MS :=
    (mSeq (mIfS (mCmp cIs (mFld "Table" "kept" (mVar 0)) (mC .non)) (mFldS "Table" "kept" (mVar 0) (mCalG 1 0 (fun ds _ => ds) msheet_of (aCons (mFld "Table" "now" (mVar 0)) aNil) aNil)) mNil)
    (mRet (mFld "Table" "kept" (mVar 0))))
noncomputable def mTable_m_sheet : List D → Hd → Res D := runB 1 bTable_m_sheet
theorem okTable_m_sheet (T : Txt K w mg) {f : Addr} {fd : FuncData} (FTable_m_sheet : DefX K mg "sheet" "Table.sheet" stTable_m_sheet [] [] f fd) (Csheet_of_1 : CalG P w K mg base 8 "sheet_of" 1 [] (fun ds _ => ds) msheet_of) : FnG P w K mg base (L2.CX P w) 9 f fd ["self"] (spM ⟨K, mg⟩ (["self"] : List Str).length mTable_m_sheet) := (fn_okX FTable_m_sheet scTable_m_sheet fun cdv A outer s H E hr =>
    (s_cons (s_if (t_is (e_fld T.k_Table.V (e_var 0)) e_non) (s_one (s_fld T.k_Table.V T.k_Table.na (e_var 0) (e_calG Csheet_of_1 (hr.mono (by decide)) (takes_of rfl rfl rfl rfl) (a_cons (e_fld T.k_Table.V (e_var 0)) a_nil) k_nil))) s_nil)
    (s_one (s_ret (e_fld T.k_Table.V (e_var 0))))))
abbrev stTable_m_thing : Stmt := mthS (topS 130) 15
abbrev NTable_m_thing : List Str := ["self", "number"]
theorem scTable_m_thing : FnScope NTable_m_thing ["self", "number"] (defScope stTable_m_thing) := ⟨rfl, rfl, rfl, by decide +kernel, rfl, by decide +kernel, by decide +kernel⟩
noncomputable def bTable_m_thing : MS :=
    (mSeq (mExpr (mCalG 2 0 (fun ds _ => ds) mneed_thing (aCons (mFld "Table" "now" (mVar 0)) (aCons (mVar 1) aNil)) aNil))
    (mRet (mFz (mBi dictF (aCons (mIxD (mIxD (mFld "Table" "now" (mVar 0)) (mC (.str "things"))) (mVar 1)) aNil)))))
noncomputable def mTable_m_thing : List D → Hd → Res D := runB 2 bTable_m_thing
theorem okTable_m_thing (T : Txt K w mg) {f : Addr} {fd : FuncData} (FTable_m_thing : DefX K mg "thing" "Table.thing" stTable_m_thing [] [] f fd) (Cneed_thing_2 : CalG P w K mg base 16 "need_thing" 2 [] (fun ds _ => ds) mneed_thing) : FnG P w K mg base (L2.CX P w) 17 f fd ["self", "number"] (spM ⟨K, mg⟩ (["self", "number"] : List Str).length mTable_m_thing) := (fn_okX FTable_m_thing scTable_m_thing fun cdv A outer s H E hr =>
    (s_cons (s_expr (e_calG Cneed_thing_2 (hr.mono (by decide)) (takes_of rfl rfl rfl rfl) (a_cons (e_fld T.k_Table.V (e_var 0)) (a_cons (e_var 1) a_nil)) k_nil))
    (s_one (s_ret (SO.fz (e_bt call_dictD s_dict T.b_dict PyProof.Rows.boot_dict (a_cons (e_ixD hr.r (e_ixD hr.r (e_fld T.k_Table.V (e_var 0)) e_str) (e_var 1)) a_nil)))))))
abbrev stTable_m_things : Stmt := mthS (topS 130) 16
abbrev NTable_m_things : List Str := ["self", "place", "number"]
theorem scTable_m_things : FnScope NTable_m_things ["self", "place"] (defScope stTable_m_things) := ⟨rfl, rfl, rfl, by decide +kernel, rfl, by decide +kernel, by decide +kernel⟩
noncomputable def bTable_m_things : MS :=
    (mSeq (mIfS (mCmp cNotInD (mVar 1) (mC k_PLACES)) (mRaise "BadPlace") mNil)
    (mRet (mFz (mLc [2] (mIterD (mFz (mBi srtGF (aCons (mIxD (mFld "Table" "now" (mVar 0)) (mC (.str "things"))) aNil)))) (gSet 2) (mCmp cEq (mIxD (mIxD (mIxD (mFld "Table" "now" (mVar 0)) (mC (.str "things"))) (mVar 2)) (mC (.str "place"))) (mVar 1)) (mVar 2)))))
noncomputable def mTable_m_things : List D → Hd → Res D := runB 3 bTable_m_things
theorem okTable_m_things (T : Txt K w mg) {f : Addr} {fd : FuncData} (FTable_m_things : DefX K mg "things" "Table.things" stTable_m_things [.str "board"] [] f fd)  : FnG P w K mg base (L2.CX P w) 1 f fd ["self", "place"] (spM ⟨K, mg⟩ (["self", "place"] : List Str).length mTable_m_things) := (fn_okX FTable_m_things scTable_m_things fun cdv A outer s H E hr =>
    (s_cons (s_if (t_notinDD hr.r (e_var 1) (e_con T.c_PLACES)) (s_one (s_raise T.e_BadPlace.choose_spec rfl (takes_of rfl rfl rfl rfl))) s_nil)
    (s_one (s_ret (SO.fz (e_lc rfl scTable_m_things.nd (i_anyD (SO.fz (e_bi (cr_srtG hr.r rfl) s_srtG T.b_sorted PyProof.Rows.boot_sorted (a_cons (e_ixD hr.r (e_fld T.k_Table.V (e_var 0)) e_str) a_nil)))) (blkOk_by (own := [("number", 2)]) (N := NTable_m_things) (sc := defScope stTable_m_things) (by decide +kernel)) (fun _ _ _ _ _ => (g_name 2 scTable_m_things.nd)) (fun _ _ _ _ _ => (ts_one (t_eq hr.r (e_ixD hr.r (e_ixD hr.r (e_ixD hr.r (e_fld T.k_Table.V (e_var 0)) e_str) (e_var 2)) e_str) (e_var 1)))) (fun _ _ _ _ _ => (e_var 2))))))))
abbrev stTable_m_lasting : Stmt := mthS (topS 130) 17
abbrev NTable_m_lasting : List Str := ["self"]
theorem scTable_m_lasting : FnScope NTable_m_lasting ["self"] (defScope stTable_m_lasting) := ⟨rfl, rfl, rfl, by decide +kernel, rfl, by decide +kernel, by decide +kernel⟩
noncomputable def bTable_m_lasting : MS :=
    (mRet (mFz (mBi listDF (aCons (mIxD (mFld "Table" "now" (mVar 0)) (mC (.str "lasting"))) aNil))))
noncomputable def mTable_m_lasting : List D → Hd → Res D := runB 1 bTable_m_lasting
theorem okTable_m_lasting (T : Txt K w mg) {f : Addr} {fd : FuncData} (FTable_m_lasting : DefX K mg "lasting" "Table.lasting" stTable_m_lasting [] [] f fd)  : FnG P w K mg base (L2.CX P w) 1 f fd ["self"] (spM ⟨K, mg⟩ (["self"] : List Str).length mTable_m_lasting) := (fn_okX FTable_m_lasting scTable_m_lasting fun cdv A outer s H E hr =>
    (s_one (s_ret (SO.fz (e_bt (cr_listD rfl) s_listD T.b_list PyProof.Rows.boot_list (a_cons (e_ixD hr.r (e_fld T.k_Table.V (e_var 0)) e_str) a_nil))))))
abbrev stTable_m_hands : Stmt := mthS (topS 130) 18
abbrev NTable_m_hands : List Str := ["self"]
theorem scTable_m_hands : FnScope NTable_m_hands ["self"] (defScope stTable_m_hands) := ⟨rfl, rfl, rfl, by decide +kernel, rfl, by decide +kernel, by decide +kernel⟩
noncomputable def bTable_m_hands : MS :=
    (mRet (mIxD (mFld "Table" "now" (mVar 0)) (mC (.str "hands"))))
noncomputable def mTable_m_hands : List D → Hd → Res D := runB 1 bTable_m_hands
theorem okTable_m_hands (T : Txt K w mg) {f : Addr} {fd : FuncData} (FTable_m_hands : DefX K mg "hands" "Table.hands" stTable_m_hands [] [] f fd)  : FnG P w K mg base (L2.CX P w) 1 f fd ["self"] (spM ⟨K, mg⟩ (["self"] : List Str).length mTable_m_hands) := (fn_okX FTable_m_hands scTable_m_hands fun cdv A outer s H E hr =>
    (s_one (s_ret (e_ixD hr.r (e_fld T.k_Table.V (e_var 0)) e_str))))
abbrev stTable_m_rounds : Stmt := mthS (topS 130) 19
abbrev NTable_m_rounds : List Str := ["self"]
theorem scTable_m_rounds : FnScope NTable_m_rounds ["self"] (defScope stTable_m_rounds) := ⟨rfl, rfl, rfl, by decide +kernel, rfl, by decide +kernel, by decide +kernel⟩
noncomputable def bTable_m_rounds : MS :=
    (mRet (mIxD (mFld "Table" "now" (mVar 0)) (mC (.str "round"))))
noncomputable def mTable_m_rounds : List D → Hd → Res D := runB 1 bTable_m_rounds
theorem okTable_m_rounds (T : Txt K w mg) {f : Addr} {fd : FuncData} (FTable_m_rounds : DefX K mg "rounds" "Table.rounds" stTable_m_rounds [] [] f fd)  : FnG P w K mg base (L2.CX P w) 1 f fd ["self"] (spM ⟨K, mg⟩ (["self"] : List Str).length mTable_m_rounds) := (fn_okX FTable_m_rounds scTable_m_rounds fun cdv A outer s H E hr =>
    (s_one (s_ret (e_ixD hr.r (e_fld T.k_Table.V (e_var 0)) e_str))))
abbrev st_law_bag : Stmt := topS 132
abbrev N_law_bag : List Str := ["_law_script"]
theorem sc_law_bag : FnScope N_law_bag ["_law_script"] (defScope st_law_bag) := ⟨rfl, rfl, rfl, by decide +kernel, rfl, by decide +kernel, by decide +kernel⟩
noncomputable def b_law_bag : MS :=
    (mRet (mOwn (mLst (aCons (mFz (mBi listDF (aCons (mFz (mSl (mVar 0) oNone (oSome (mC (.int 63))))) aNil))) (aCons (mC (.int 0)) (aCons (mC (.int 0)) (aCons (mC (.int 8989)) (aCons (mC (.int 0)) (aCons (mC (.int 0)) aNil)))))))))
noncomputable def m_law_bag : List D → Hd → Res D := runB 1 b_law_bag
theorem ok_law_bag (T : Txt K w mg) {f : Addr} {fd : FuncData} (F_law_bag : DefX K mg "_law_bag" "_law_bag" st_law_bag [] [] f fd)  : FnG P w K mg base (L2.CX P w) 1 f fd ["_law_script"] (spM ⟨K, mg⟩ (["_law_script"] : List Str).length m_law_bag) := (fn_okX F_law_bag sc_law_bag fun cdv A outer s H E hr =>
    (s_one (s_ret (SO.own (e_lst (a_cons (SO.fz (e_bt (cr_listD rfl) s_listD T.b_list PyProof.Rows.boot_list (a_cons (SO.fz (e_sl (e_var 0) o_none (o_some e_int))) a_nil))) (a_cons e_int (a_cons e_int (a_cons e_int (a_cons e_int (a_cons e_int a_nil)))))))))))
abbrev st_law_get : Stmt := topS 133
abbrev N_law_get : List Str := ["_law_bag_here", "_law_size", "_law_cell", "_law_got"]
theorem sc_law_get : FnScope N_law_get ["_law_bag_here", "_law_size"] (defScope st_law_get) := ⟨rfl, rfl, rfl, by decide +kernel, rfl, by decide +kernel, by decide +kernel⟩
noncomputable def b_law_get : MS :=
    (mSeq (mAsg (mFz (mBin addF (mIxD (mVar 0) (mC (.int 4))) (mC (.int 1)))) (gSub (mVar 0) (mC (.int 4))))
    (mSeq (mIfS (mAnd (mCmp cLt (mIxD (mVar 0) (mC (.int 2))) (mVar 1)) (mCmp cLt (mIxD (mVar 0) (mC (.int 1))) (mFz (mBi lenF (aCons (mIxD (mVar 0) (mC (.int 0))) aNil))))) (mSeq (mSet 2 (mIxD (mIxD (mVar 0) (mC (.int 0))) (mIxD (mVar 0) (mC (.int 1)))))
    (mSeq (mAsg (mFz (mBin addF (mIxD (mVar 0) (mC (.int 1))) (mC (.int 1)))) (gSub (mVar 0) (mC (.int 1))))
    (mSeq (mAsg (mIf (mCmp cGe (mVar 2) (mFz (mBin powF (mC (.int 10)) (mC (.int 18))))) (mVar 2) (mC (.int 0))) (gSub (mVar 0) (mC (.int 2))))
    (mAsg (mFz (mBin modF (mFz (mBin addF (mFz (mBin addF (mFz (mBin mulF (mIxD (mVar 0) (mC (.int 3))) (mC (.int 40014)))) (mFz (mBin mulF (mFz (mBin modF (mVar 2) (mC (.int 1000000007)))) (mC (.int 9241)))))) (mC (.int 83)))) (mC (.int 2147483579)))) (gSub (mVar 0) (mC (.int 3))))))) mNil)
    (mSeq (mIfS (mCmp cGe (mIxD (mVar 0) (mC (.int 2))) (mVar 1)) (mSeq (mSet 3 (mFz (mBin modF (mIxD (mVar 0) (mC (.int 2))) (mVar 1))))
    (mSeq (mAsg (mFz (mBin fdivF (mIxD (mVar 0) (mC (.int 2))) (mVar 1))) (gSub (mVar 0) (mC (.int 2))))
    (mRet (mVar 3)))) mNil)
    (mSeq (mAsg (mFz (mBin modF (mFz (mBin addF (mFz (mBin addF (mFz (mBin mulF (mIxD (mVar 0) (mC (.int 3))) (mC (.int 68909)))) (mFz (mBin mulF (mIxD (mVar 0) (mC (.int 4))) (mC (.int 30269)))))) (mC (.int 1000003)))) (mC (.int 2147483579)))) (gSub (mVar 0) (mC (.int 3))))
    (mRet (mFz (mBin modF (mFz (mBin addF (mFz (mBin fdivF (mFz (mBin mulF (mIxD (mVar 0) (mC (.int 3))) (mIxD (mVar 0) (mC (.int 3))))) (mC (.int 32771)))) (mFz (mBin fdivF (mIxD (mVar 0) (mC (.int 3))) (mC (.int 41)))))) (mVar 1))))))))
noncomputable def m_law_get : List D → Hd → Res D := runB 4 b_law_get
theorem ok_law_get (T : Txt K w mg) {f : Addr} {fd : FuncData} (F_law_get : DefX K mg "_law_get" "_law_get" st_law_get [] [] f fd)  : FnG P w K mg base (L2.CX P w) 1 f fd ["_law_bag_here", "_law_size"] (spM ⟨K, mg⟩ (["_law_bag_here", "_law_size"] : List Str).length m_law_get) := (fn_okX F_law_get sc_law_get fun cdv A outer s H E hr =>
    (s_cons (s_asg (SO.fz (o_add (e_ixD hr.r (e_var 0) e_int) e_int)) (g_sub (e_var 0) e_int))
    (s_cons (s_if (t_w (w_and (t_lt (e_ixD hr.r (e_var 0) e_int) (e_var 1)) (w_and1 (t_lt (e_ixD hr.r (e_var 0) e_int) (SO.fz (e_bi call_len s_len T.b_len PySem.boot_len (a_cons (e_ixD hr.r (e_var 0) e_int) a_nil))))))) (s_cons (s_set 2 (e_ixD hr.r (e_ixD hr.r (e_var 0) e_int) (e_ixD hr.r (e_var 0) e_int)) sc_law_get.nd)
    (s_cons (s_asg (SO.fz (o_add (e_ixD hr.r (e_var 0) e_int) e_int)) (g_sub (e_var 0) e_int))
    (s_cons (s_asg (e_if (t_ge (e_var 2) (SO.fz (o_pow e_int e_int))) (e_var 2) e_int) (g_sub (e_var 0) e_int))
    (s_one (s_asg (SO.fz (o_mod (SO.fz (o_add (SO.fz (o_add (SO.fz (o_mul (e_ixD hr.r (e_var 0) e_int) e_int)) (SO.fz (o_mul (SO.fz (o_mod (e_var 2) e_int)) e_int)))) e_int)) e_int)) (g_sub (e_var 0) e_int)))))) s_nil)
    (s_cons (s_if (t_ge (e_ixD hr.r (e_var 0) e_int) (e_var 1)) (s_cons (s_set 3 (SO.fz (o_mod (e_ixD hr.r (e_var 0) e_int) (e_var 1))) sc_law_get.nd)
    (s_cons (s_asg (SO.fz (o_fdiv (e_ixD hr.r (e_var 0) e_int) (e_var 1))) (g_sub (e_var 0) e_int))
    (s_one (s_ret (e_var 3))))) s_nil)
    (s_cons (s_asg (SO.fz (o_mod (SO.fz (o_add (SO.fz (o_add (SO.fz (o_mul (e_ixD hr.r (e_var 0) e_int) e_int)) (SO.fz (o_mul (e_ixD hr.r (e_var 0) e_int) e_int)))) e_int)) e_int)) (g_sub (e_var 0) e_int))
    (s_one (s_ret (SO.fz (o_mod (SO.fz (o_add (SO.fz (o_fdiv (SO.fz (o_mul (e_ixD hr.r (e_var 0) e_int) (e_ixD hr.r (e_var 0) e_int))) e_int)) (SO.fz (o_fdiv (e_ixD hr.r (e_var 0) e_int) e_int)))) (e_var 1))))))))))
abbrev st_law_same : Stmt := topS 134
abbrev N_law_same : List Str := ["_law_found", "_law_due", "_law_key_now", "_law_a", "_law_b"]
theorem sc_law_same : FnScope N_law_same ["_law_found", "_law_due"] (defScope st_law_same) := ⟨rfl, rfl, rfl, by decide +kernel, rfl, by decide +kernel, by decide +kernel⟩
noncomputable def b_law_same (q_law_same : List D → Hd → Res D) : MS :=
    (mSeq (mIfS (mTru (mFz (mBi isiF (aCons (mVar 1) (aCons (mC (.ty "dict")) aNil))))) (mSeq (mIfS (mOr (mNot (mTru (mFz (mBi isiF (aCons (mVar 0) (aCons (mC (.ty "dict")) aNil)))))) (mCmp cNe (mFz (mBi srtGF (aCons (mVar 0) aNil))) (mFz (mBi srtGF (aCons (mVar 1) aNil))))) (mRet (mC (.bl false))) mNil)
    (mLk 1 (mRet (mFz (mBi allF (aCons (mFz (mLc [2] (mIterD (mVar 1)) (gSet 2) tYesM (mCalG 2 0 (fun ds _ => ds) q_law_same (aCons (mIxD (mVar 0) (mVar 2)) (aCons (mIxD (mVar 1) (mVar 2)) aNil)) aNil))) aNil)))))) mNil)
    (mSeq (mIfS (mOr (mCmp cNe (mFz (mBi isiF (aCons (mVar 1) (aCons (mC (.ty "tuple")) aNil)))) (mFz (mBi isiF (aCons (mVar 0) (aCons (mC (.ty "tuple")) aNil))))) (mCmp cNe (mFz (mBi isiF (aCons (mVar 1) (aCons (mC (.ty "list")) aNil)))) (mFz (mBi isiF (aCons (mVar 0) (aCons (mC (.ty "list")) aNil)))))) (mRet (mC (.bl false))) mNil)
    (mSeq (mIfS (mTru (mFz (mBi isiF (aCons (mVar 1) (aCons (mTup (aCons (mC (.ty "list")) (aCons (mC (.ty "tuple")) aNil))) aNil))))) (mRet (mAndV (mB (mCmp cEq (mFz (mBi lenF (aCons (mVar 0) aNil))) (mFz (mBi lenF (aCons (mVar 1) aNil))))) (mFz (mBi allF (aCons (mFz (mLc [3, 4] (mSrc zipXF (aCons (mVar 0) (aCons (mVar 1) aNil))) (gTupM 2 (gsCons (gSet 3) (gsCons (gSet 4) gsNil))) tYesM (mCalG 2 0 (fun ds _ => ds) q_law_same (aCons (mVar 3) (aCons (mVar 4) aNil)) aNil))) aNil))))) mNil)
    (mSeq (mIfS (mOr (mCmp cNe (mFz (mBi isiF (aCons (mVar 1) (aCons (mC (.ty "bool")) aNil)))) (mFz (mBi isiF (aCons (mVar 0) (aCons (mC (.ty "bool")) aNil))))) (mCmp cNe (mFz (mBi isiF (aCons (mVar 1) (aCons (mC (.ty "str")) aNil)))) (mFz (mBi isiF (aCons (mVar 0) (aCons (mC (.ty "str")) aNil)))))) (mRet (mC (.bl false))) mNil)
    (mRet (mAndV (mB (mCmp cEq (mB (mCmp cIs (mVar 1) (mC .non))) (mB (mCmp cIs (mVar 0) (mC .non))))) (mB (mCmp cEq (mVar 0) (mVar 1)))))))))
noncomputable def r_law_same : Nat → List D → Hd → Res D
  | 0 => runB 5 mBadS
  | n + 1 => runB 5 (b_law_same (r_law_same n))
theorem rok_law_same (T : Txt K w mg) {f_law_same : Addr} {d_law_same : FuncData} (F_law_same : DefX K mg "_law_same" "_law_same" st_law_same [] [] f_law_same d_law_same) (BC_law_same_2 : ShB K mg "_law_same" f_law_same d_law_same ["_law_found", "_law_due"] 2 [] (fun ds _ => ds))  : ∀ n : Nat, (FnG P w K mg base (L2.CX P w) (0 + n + 1) f_law_same d_law_same ["_law_found", "_law_due"] (spM ⟨K, mg⟩ (["_law_found", "_law_due"] : List Str).length (r_law_same n)))
  | 0 => fn_okX F_law_same sc_law_same fun cdv A outer s H E hr => ss_bad
  | n + 1 =>
    have O_law_same := rok_law_same T F_law_same BC_law_same_2 n
    have C_law_same_2 := BC_law_same_2.cal O_law_same
    fn_okX F_law_same sc_law_same fun cdv A outer s H E hr =>
    (s_cons (s_if (t_tru (SO.fz (e_bi call_isiA s_isi T.b_isinstance PyProof.Rows.boot_isinstance (a_cons (e_var 1) (a_cons (e_ty T.b_dict PyProof.Rows.boot_dict) a_nil))))) (s_cons (s_if (t_w (w_or (t_not (t_tru (SO.fz (e_bi call_isiA s_isi T.b_isinstance PyProof.Rows.boot_isinstance (a_cons (e_var 0) (a_cons (e_ty T.b_dict PyProof.Rows.boot_dict) a_nil)))))) (w_or1 (t_ne hr.r (SO.fz (e_bi (cr_srtG hr.r rfl) s_srtG T.b_sorted PyProof.Rows.boot_sorted (a_cons (e_var 0) a_nil))) (SO.fz (e_bi (cr_srtG hr.r rfl) s_srtG T.b_sorted PyProof.Rows.boot_sorted (a_cons (e_var 1) a_nil))))))) (s_one (s_ret e_bl)) s_nil)
    (s_one (s_lock 1 (s_ret (SO.fz (e_bi (cr_all rfl) s_all T.b_all PyProof.Rows.boot_all (a_cons (SO.fz (e_lc rfl sc_law_same.nd (i_anyD (e_var 1)) (blkOk_by (own := [("_law_key_now", 2)]) (N := N_law_same) (sc := defScope st_law_same) (by decide +kernel)) (fun _ _ _ _ _ => (g_name 2 sc_law_same.nd)) (fun _ _ _ _ _ => ts_nil) (fun _ _ _ _ _ => (e_calG C_law_same_2 (hr.mono (by omega)) takes0 (a_cons (e_ixD hr.r (e_var 0) (e_var 2)) (a_cons (e_ixD hr.r (e_var 1) (e_var 2)) a_nil)) k_nil)))) a_nil))))))) s_nil)
    (s_cons (s_if (t_w (w_or (t_ne hr.r (SO.fz (e_bi call_isiA s_isi T.b_isinstance PyProof.Rows.boot_isinstance (a_cons (e_var 1) (a_cons (e_ty T.b_tuple PyProof.Rows.boot_tuple) a_nil)))) (SO.fz (e_bi call_isiA s_isi T.b_isinstance PyProof.Rows.boot_isinstance (a_cons (e_var 0) (a_cons (e_ty T.b_tuple PyProof.Rows.boot_tuple) a_nil))))) (w_or1 (t_ne hr.r (SO.fz (e_bi call_isiA s_isi T.b_isinstance PyProof.Rows.boot_isinstance (a_cons (e_var 1) (a_cons (e_ty T.b_list PyProof.Rows.boot_list) a_nil)))) (SO.fz (e_bi call_isiA s_isi T.b_isinstance PyProof.Rows.boot_isinstance (a_cons (e_var 0) (a_cons (e_ty T.b_list PyProof.Rows.boot_list) a_nil)))))))) (s_one (s_ret e_bl)) s_nil)
    (s_cons (s_if (t_tru (SO.fz (e_bi call_isiA s_isi T.b_isinstance PyProof.Rows.boot_isinstance (a_cons (e_var 1) (a_cons (e_tup (a_cons (e_ty T.b_list PyProof.Rows.boot_list) (a_cons (e_ty T.b_tuple PyProof.Rows.boot_tuple) a_nil))) a_nil))))) (s_one (s_ret (e_and (e_eq hr.r (SO.fz (e_bi call_len s_len T.b_len PySem.boot_len (a_cons (e_var 0) a_nil))) (SO.fz (e_bi call_len s_len T.b_len PySem.boot_len (a_cons (e_var 1) a_nil)))) (e_one (SO.fz (e_bi (cr_all rfl) s_all T.b_all PyProof.Rows.boot_all (a_cons (SO.fz (e_lc rfl sc_law_same.nd (i_zipX T.b_zip (a_cons (e_var 0) (a_cons (e_var 1) a_nil))) (blkOk_by (own := [("_law_a", 3), ("_law_b", 4)]) (N := N_law_same) (sc := defScope st_law_same) (by decide +kernel)) (fun _ _ _ _ _ => (g_tup rfl (gs_cons (gn_name 3 sc_law_same.nd) (gs_cons (gn_name 4 sc_law_same.nd) gs_nil)))) (fun _ _ _ _ _ => ts_nil) (fun _ _ _ _ _ => (e_calG C_law_same_2 (hr.mono (by omega)) takes0 (a_cons (e_var 3) (a_cons (e_var 4) a_nil)) k_nil)))) a_nil))))))) s_nil)
    (s_cons (s_if (t_w (w_or (t_ne hr.r (SO.fz (e_bi call_isiA s_isi T.b_isinstance PyProof.Rows.boot_isinstance (a_cons (e_var 1) (a_cons (e_ty T.b_bool PyProof.Rows.boot_bool) a_nil)))) (SO.fz (e_bi call_isiA s_isi T.b_isinstance PyProof.Rows.boot_isinstance (a_cons (e_var 0) (a_cons (e_ty T.b_bool PyProof.Rows.boot_bool) a_nil))))) (w_or1 (t_ne hr.r (SO.fz (e_bi call_isiA s_isi T.b_isinstance PyProof.Rows.boot_isinstance (a_cons (e_var 1) (a_cons (e_ty T.b_str PyProof.Rows.boot_str) a_nil)))) (SO.fz (e_bi call_isiA s_isi T.b_isinstance PyProof.Rows.boot_isinstance (a_cons (e_var 0) (a_cons (e_ty T.b_str PyProof.Rows.boot_str) a_nil)))))))) (s_one (s_ret e_bl)) s_nil)
    (s_one (s_ret (e_and (e_eq hr.r (e_is (e_var 1) e_non) (e_is (e_var 0) e_non)) (e_one (e_eq hr.r (e_var 0) (e_var 1))))))))))
noncomputable abbrev m_law_same := r_law_same 40
theorem ok_law_same (T : Txt K w mg) {f_law_same : Addr} {d_law_same : FuncData} (F_law_same : DefX K mg "_law_same" "_law_same" st_law_same [] [] f_law_same d_law_same) (BC_law_same_2 : ShB K mg "_law_same" f_law_same d_law_same ["_law_found", "_law_due"] 2 [] (fun ds _ => ds))  : (FnG P w K mg base (L2.CX P w) 41 f_law_same d_law_same ["_law_found", "_law_due"] (spM ⟨K, mg⟩ (["_law_found", "_law_due"] : List Str).length m_law_same)) := rok_law_same T F_law_same BC_law_same_2 40
abbrev st_law_ask : Stmt := topS 135
abbrev N_law_ask : List Str := ["_law_ask_here", "_law_answer", "_law_why", "e"]
theorem sc_law_ask : FnScope N_law_ask ["_law_ask_here"] (defScope st_law_ask) := ⟨rfl, rfl, rfl, by decide +kernel, rfl, by decide +kernel, by decide +kernel⟩
theorem ok_law_ask (T : Txt K w mg) {f : Addr} {fd : FuncData} (F_law_ask : DefAt K mg "_law_ask" st_law_ask ["_law_ask_here"] f fd) : AskAt K mg st_law_ask f fd clA := ⟨F_law_ask, fun X q cdg hm hK => by
  subst hm hK
  obtain ⟨CM, CS, CN, m1, m2, m3, KA⟩ := T.ask
  exact ⟨CM, CS, CN, ask_gives rfl rfl rfl rfl rfl rfl rfl m1 m2 m3 (by intro L; rfl) (by intro L; rfl) (by intro L; exact ⟨_, rfl⟩), KA⟩, sc_law_ask, .inl rfl⟩
abbrev st_law_now : Stmt := topS 136
abbrev N_law_now : List Str := ["_law_count"]
theorem sc_law_now : FnScope N_law_now ["_law_count"] (defScope st_law_now) := ⟨rfl, rfl, rfl, by decide +kernel, rfl, by decide +kernel, by decide +kernel⟩
noncomputable def b_law_now : MS :=
    (mRet (mFz (mDisp (pCons (mC (.str "hands")) (mVar 0) (pCons (mC (.str "round")) (mC (.int 1)) (pCons (mC (.str "clock")) (mC (.int 0)) (pCons (mC (.str "things")) (mFz mDict0) (pCons (mC (.str "lasting")) (mFz (mLst aNil)) pNil))))))))
noncomputable def m_law_now : List D → Hd → Res D := runB 1 b_law_now
theorem ok_law_now (T : Txt K w mg) {f : Addr} {fd : FuncData} (F_law_now : DefX K mg "_law_now" "_law_now" st_law_now [] [] f fd)  : FnG P w K mg base (L2.CX P w) 1 f fd ["_law_count"] (spM ⟨K, mg⟩ (["_law_count"] : List Str).length m_law_now) := (fn_okX F_law_now sc_law_now fun cdv A outer s H E hr =>
    (s_one (s_ret (SO.fz (e_disp (sp_cons e_str (e_var 0) (sp_cons e_str e_int (sp_cons e_str e_int (sp_cons e_str (SO.fz e_dict0) (sp_cons e_str (SO.fz (e_lst a_nil)) sp_nil))))))))))
abbrev st_law_stands_so : Stmt := topS 137
abbrev N_law_stands_so : List Str := ["_law_table_now", "_law_now_here", "_law_found", "_law_due", "_law_place_now", "_law_one"]
theorem sc_law_stands_so : FnScope N_law_stands_so ["_law_table_now", "_law_now_here"] (defScope st_law_stands_so) := ⟨rfl, rfl, rfl, by decide +kernel, rfl, by decide +kernel, by decide +kernel⟩
noncomputable def b_law_stands_so : MS :=
    (mSeq (mSet 2 (mFz (mLst (aCons (mMthG "Table" 0 0 (fun ds es => pickL [0, 1] (ds ++ ([.str "board"] ++ es))) mTable_m_things (mVar 0) aNil aNil) (aCons (mMthG "Table" 1 0 (fun ds es => pickL [0, 1] (ds ++ ([.str "board"] ++ es))) mTable_m_things (mVar 0) (aCons (mC (.str "heap")) aNil) aNil) (aCons (mMthG "Table" 0 1 (fun ds es => pickL [0, 2] (ds ++ ([.str "board"] ++ es))) mTable_m_things (mVar 0) aNil (aCons (mC (.str "aside")) aNil)) aNil))))))
    (mSeq (mSet 3 (mOwn (mLst aNil)))
    (mSeq (mFor (mIterD (mFz (mLst (aCons (mC (.str "board")) (aCons (mC (.str "heap")) (aCons (mC (.str "aside")) aNil)))))) (gSet 4) (mExpr (mFz (mMeth isOwnL appF (mVar 3) (aCons (mFz (mLc [5] (mIterD (mFz (mBi srtGF (aCons (mIxD (mVar 1) (mC (.str "things"))) aNil)))) (gSet 5) (mCmp cEq (mIxD (mIxD (mIxD (mVar 1) (mC (.str "things"))) (mVar 5)) (mC (.str "place"))) (mVar 4)) (mVar 5))) aNil)))))
    (mSeq (mSet 2 (mFz (mBin addF (mVar 2) (mFz (mLst (aCons (mMthG "Table" 0 0 (fun ds _ => ds) mTable_m_lasting (mVar 0) aNil aNil) (aCons (mMthG "Table" 0 0 (fun ds _ => ds) mTable_m_rounds (mVar 0) aNil aNil) (aCons (mMthG "Table" 0 0 (fun ds _ => ds) mTable_m_hands (mVar 0) aNil aNil) (aCons (mFz (mBi (lenOF "Table" (fun ds _ => ds) mTable_m___len__) (aCons (mVar 0) aNil))) aNil)))))))))
    (mSeq (mSet 2 (mFz (mBin addF (mVar 2) (mFz (mLst (aCons (mMthG "Table" 0 0 (fun ds _ => ds) mTable_m_busy (mVar 0) aNil aNil) aNil))))))
    (mSeq (mIfS (mNot (mTru (mCalG 2 0 (fun ds _ => ds) m_law_same (aCons (mVar 2) (aCons (mFz (mBin addF (mVar 3) (mFz (mLst (aCons (mIxD (mVar 1) (mC (.str "lasting"))) (aCons (mIxD (mVar 1) (mC (.str "round"))) (aCons (mIxD (mVar 1) (mC (.str "hands"))) (aCons (mFz (mBi lenF (aCons (mIxD (mVar 3) (mC (.int 0))) aNil))) (aCons (mC (.bl false)) aNil))))))))) aNil)) aNil))) (mRet (mC (.bl false))) mNil)
    (mRet (mFz (mBi allF (aCons (mFz (mLc [5] (mIterD (mIxD (mVar 1) (mC (.str "things")))) (gSet 5) tYesM (mCalG 2 0 (fun ds _ => ds) m_law_same (aCons (mMthG "Table" 1 0 (fun ds _ => ds) mTable_m_thing (mVar 0) (aCons (mVar 5) aNil) aNil) (aCons (mIxD (mIxD (mVar 1) (mC (.str "things"))) (mVar 5)) aNil)) aNil))) aNil))))))))))
noncomputable def m_law_stands_so : List D → Hd → Res D := runB 6 b_law_stands_so
theorem ok_law_stands_so (T : Txt K w mg) {f : Addr} {fd : FuncData} (F_law_stands_so : DefX K mg "_law_stands_so" "_law_stands_so" st_law_stands_so [] [] f fd) (MTable_m___len___0 : MthG P w K mg base 2 "Table" "__len__" 0 [] (fun ds _ => ds) mTable_m___len__) (MTable_m_busy_0 : MthG P w K mg base 1 "Table" "busy" 0 [] (fun ds _ => ds) mTable_m_busy) (MTable_m_thing_1 : MthG P w K mg base 17 "Table" "thing" 1 [] (fun ds _ => ds) mTable_m_thing) (MTable_m_things_0 : MthG P w K mg base 1 "Table" "things" 0 [] (fun ds es => pickL [0, 1] (ds ++ ([.str "board"] ++ es))) mTable_m_things) (MTable_m_things_0_place : MthG P w K mg base 1 "Table" "things" 0 ["place"] (fun ds es => pickL [0, 2] (ds ++ ([.str "board"] ++ es))) mTable_m_things) (MTable_m_things_1 : MthG P w K mg base 1 "Table" "things" 1 [] (fun ds es => pickL [0, 1] (ds ++ ([.str "board"] ++ es))) mTable_m_things) (MTable_m_lasting_0 : MthG P w K mg base 1 "Table" "lasting" 0 [] (fun ds _ => ds) mTable_m_lasting) (MTable_m_hands_0 : MthG P w K mg base 1 "Table" "hands" 0 [] (fun ds _ => ds) mTable_m_hands) (MTable_m_rounds_0 : MthG P w K mg base 1 "Table" "rounds" 0 [] (fun ds _ => ds) mTable_m_rounds) (C_law_same_2 : CalG P w K mg base 41 "_law_same" 2 [] (fun ds _ => ds) m_law_same) : FnG P w K mg base (L2.CX P w) 42 f fd ["_law_table_now", "_law_now_here"] (spM ⟨K, mg⟩ (["_law_table_now", "_law_now_here"] : List Str).length m_law_stands_so) := (fn_okX F_law_stands_so sc_law_stands_so fun cdv A outer s H E hr =>
    (s_cons (s_set 2 (SO.fz (e_lst (a_cons (e_mthG0 MTable_m_things_0 (hr.mono (by decide)) (takes_of rfl rfl rfl rfl) (e_var 0) k_nil) (a_cons (e_mthG MTable_m_things_1 (hr.mono (by decide)) (takes_of rfl rfl rfl rfl) (e_var 0) (a_cons e_str a_nil) k_nil) (a_cons (e_mthG0 MTable_m_things_0_place (hr.mono (by decide)) (takes_of rfl rfl rfl rfl) (e_var 0) (k_cons e_str k_nil)) a_nil))))) sc_law_stands_so.nd)
    (s_cons (s_set 3 (SO.own (e_lst a_nil)) sc_law_stands_so.nd)
    (s_cons (s_for rfl (i_anyD (SO.fz (e_lst (a_cons e_str (a_cons e_str (a_cons e_str a_nil)))))) (g_name 4 sc_law_stands_so.nd) (s_one (s_expr (SO.fz (e_meth PySem.F.plainAttrs_list PySem.F.slot_list_append PySem.F.type_list_append mt_append isOwnL_ty s_app (e_var 3) (a_cons (SO.fz (e_lc rfl sc_law_stands_so.nd (i_anyD (SO.fz (e_bi (cr_srtG hr.r rfl) s_srtG T.b_sorted PyProof.Rows.boot_sorted (a_cons (e_ixD hr.r (e_var 1) e_str) a_nil)))) (blkOk_by (own := [("_law_one", 5)]) (N := N_law_stands_so) (sc := defScope st_law_stands_so) (by decide +kernel)) (fun _ _ _ _ _ => (g_name 5 sc_law_stands_so.nd)) (fun _ _ _ _ _ => (ts_one (t_eq hr.r (e_ixD hr.r (e_ixD hr.r (e_ixD hr.r (e_var 1) e_str) (e_var 5)) e_str) (e_var 4)))) (fun _ _ _ _ _ => (e_var 5)))) a_nil))))) (passes_of rfl))
    (s_cons (s_set 2 (SO.fz (o_add (e_var 2) (SO.fz (e_lst (a_cons (e_mthG0 MTable_m_lasting_0 (hr.mono (by decide)) (takes_of rfl rfl rfl rfl) (e_var 0) k_nil) (a_cons (e_mthG0 MTable_m_rounds_0 (hr.mono (by decide)) (takes_of rfl rfl rfl rfl) (e_var 0) k_nil) (a_cons (e_mthG0 MTable_m_hands_0 (hr.mono (by decide)) (takes_of rfl rfl rfl rfl) (e_var 0) k_nil) (a_cons (SO.fz (e_lenO MTable_m___len___0 (hr.mono (by decide)) T.b_len PySem.boot_len (a_cons (e_var 0) a_nil))) a_nil)))))))) sc_law_stands_so.nd)
    (s_cons (s_set 2 (SO.fz (o_add (e_var 2) (SO.fz (e_lst (a_cons (e_mthG0 MTable_m_busy_0 (hr.mono (by decide)) (takes_of rfl rfl rfl rfl) (e_var 0) k_nil) a_nil))))) sc_law_stands_so.nd)
    (s_cons (s_if (t_not (t_tru (e_calG C_law_same_2 (hr.mono (by decide)) (takes_of rfl rfl rfl rfl) (a_cons (e_var 2) (a_cons (SO.fz (o_add (e_var 3) (SO.fz (e_lst (a_cons (e_ixD hr.r (e_var 1) e_str) (a_cons (e_ixD hr.r (e_var 1) e_str) (a_cons (e_ixD hr.r (e_var 1) e_str) (a_cons (SO.fz (e_bi call_len s_len T.b_len PySem.boot_len (a_cons (e_ixD hr.r (e_var 3) e_int) a_nil))) (a_cons e_bl a_nil))))))))) a_nil)) k_nil))) (s_one (s_ret e_bl)) s_nil)
    (s_one (s_ret (SO.fz (e_bi (cr_all rfl) s_all T.b_all PyProof.Rows.boot_all (a_cons (SO.fz (e_lc rfl sc_law_stands_so.nd (i_anyD (e_ixD hr.r (e_var 1) e_str)) (blkOk_by (own := [("_law_one", 5)]) (N := N_law_stands_so) (sc := defScope st_law_stands_so) (by decide +kernel)) (fun _ _ _ _ _ => (g_name 5 sc_law_stands_so.nd)) (fun _ _ _ _ _ => ts_nil) (fun _ _ _ _ _ => (e_calG C_law_same_2 (hr.mono (by decide)) takes0 (a_cons (e_mthG MTable_m_thing_1 (hr.mono (by decide)) takes0 (e_var 0) (a_cons (e_var 5) a_nil) k_nil) (a_cons (e_ixD hr.r (e_ixD hr.r (e_var 1) e_str) (e_var 5)) a_nil)) k_nil)))) a_nil))))))))))))
abbrev stlaw : Stmt := topS 138
abbrev Nlaw : List Str := ["_law_script", "_law_bag_here", "_law_count", "_law_here", "_law_told", "_law_answers"]
theorem sclaw : FnScope Nlaw ["_law_script"] (defScope stlaw) := ⟨rfl, rfl, rfl, by decide +kernel, rfl, by decide +kernel, by decide +kernel⟩
noncomputable def blaw : MS :=
    (mSeq (mSet 1 (mCalG 1 0 (fun ds _ => ds) m_law_bag (aCons (mVar 0) aNil) aNil))
    (mSeq (mFor (mIterD (mFz (mLst (aCons (mC (.int 2)) (aCons (mC (.int 3)) (aCons (mC (.int 4)) (aCons (mFz (mBin addF (mC (.int 2)) (mCalG 2 0 (fun ds _ => ds) m_law_get (aCons (mVar 1) (aCons (mC (.int 3)) aNil)) aNil))) aNil))))))) (gSet 2) (mSeq (mSet 3 (mMakG "Table" 0 1 (fun ds es => pickL [0, 1] (ds ++ es)) mTable_m___init__ aNil (aCons (mVar 2) aNil)))
    (mSeq (mSet 4 (mFz (mLst (aCons (mMthG "Table" 0 0 (fun ds _ => ds) mTable_m_done (mVar 3) aNil aNil) (aCons (mFz (mBi (reprOF "Table" (fun ds _ => ds) mTable_m___repr__) (aCons (mVar 3) aNil))) aNil)))))
    (mSeq (mIfS (mOr (mNot (mTru (mCalG 2 0 (fun ds _ => ds) m_law_stands_so (aCons (mVar 3) (aCons (mCalG 1 0 (fun ds _ => ds) m_law_now (aCons (mVar 2) aNil) aNil) aNil)) aNil))) (mNot (mTru (mCalG 2 0 (fun ds _ => ds) m_law_same (aCons (mVar 4) (aCons (mFz (mLst (aCons (mFz (mLst aNil)) (aCons (mJs [(mC (.str "Table(")), (mFmt (mVar 2)), (mC (.str " hands, 0 things)"))] Str.empty) aNil)))) aNil)) aNil)))) (mRet (mC (.bl false))) mNil)
    (mSeq (mIfS (mOr (mNot (mTru (mCalG 2 0 (fun ds _ => ds) m_law_same (aCons (mFz (mLst (aCons (mMthG "Sheet" 0 0 (fun ds _ => ds) mSheet_m_looks (mMthG "Table" 0 0 (fun ds _ => ds) mTable_m_sheet (mVar 3) aNil aNil) aNil aNil) (aCons (mMthG "Sheet" 0 0 (fun ds _ => ds) mSheet_m_steps (mMthG "Table" 0 0 (fun ds _ => ds) mTable_m_sheet (mVar 3) aNil aNil) aNil aNil) aNil)))) (aCons (mFz (mLst (aCons (mFz mDict0) (aCons (mFz (mLst aNil)) aNil)))) aNil)) aNil))) (mCmp (eqOF "Table" (fun ds _ => ds) mTable_m___eq__ true) (mVar 3) (mMakG "Table" 0 1 (fun ds es => pickL [0, 1] (ds ++ es)) mTable_m___init__ aNil (aCons (mVar 2) aNil)))) (mRet (mC (.bl false))) mNil)
    (mSeq (mSet 5 (mOwn (mLst (aCons (mAsk clA (mMthG "Table" 0 0 (fun ds _ => ds) mTable_m_undo (mVar 3) aNil aNil)) aNil))))
    (mSeq (mExpr (mFz (mMeth isOwnL appF (mVar 5) (aCons (mAsk clA (mMthG "Table" 0 0 (fun ds _ => ds) mTable_m_redo (mVar 3) aNil aNil)) aNil))))
    (mIfS (mCmp cNe (mVar 5) (mFz (mBin mulF (mFz (mLst (aCons (mTup (aCons (mC .non) (aCons (mC (.str "NothingLeft")) aNil))) aNil))) (mC (.int 2))))) (mRet (mC (.bl false))) mNil))))))))
    (mSeq (mFor (mIterD (mFz (mLst (aCons (mC (.int 0)) (aCons (mC (.int 1)) (aCons (mC (.int 5)) (aCons (mNeg (mC (.int 1))) (aCons (mC (.bl true)) (aCons (mC (.bl false)) (aCons (mC .non) (aCons (mC (.str "2")) (aCons (mFz (mLst (aCons (mC (.int 2)) aNil))) (aCons (mFz mDict0) (aCons (mTup (aCons (mC (.int 3)) aNil)) (aCons (mFz (mBin addF (mC (.int 5)) (mCalG 2 0 (fun ds _ => ds) m_law_get (aCons (mVar 1) (aCons (mFz (mBin powF (mC (.int 10)) (mC (.int 9)))) aNil)) aNil))) aNil))))))))))))))) (gSet 2) (mIfS (mCmp cNe (mAsk clA (mMakG "Table" 0 1 (fun ds es => pickL [0, 1] (ds ++ es)) mTable_m___init__ aNil (aCons (mVar 2) aNil))) (mTup (aCons (mC .non) (aCons (mC (.str "BadHand")) aNil)))) (mRet (mC (.bl false))) mNil))
    (mRet (mAndV (mB (mCmp (eqOF "Table" (fun ds _ => ds) mTable_m___eq__ false) (mMakG "Table" 0 0 (fun ds es => pickL [0, 1] (ds ++ ([.int (2)] ++ es))) mTable_m___init__ aNil aNil) (mMakG "Table" 0 1 (fun ds es => pickL [0, 1] (ds ++ es)) mTable_m___init__ aNil (aCons (mC (.int 2)) aNil)))) (mB (mCmp (eqOF "Table" (fun ds _ => ds) mTable_m___eq__ true) (mMakG "Table" 0 0 (fun ds es => pickL [0, 1] (ds ++ ([.int (2)] ++ es))) mTable_m___init__ aNil aNil) (mMakG "Table" 0 1 (fun ds es => pickL [0, 1] (ds ++ es)) mTable_m___init__ aNil (aCons (mC (.int 3)) aNil)))))))))
noncomputable def mlaw : List D → Hd → Res D := runB 6 blaw
theorem oklaw (T : Txt K w mg) {f : Addr} {fd : FuncData} (Flaw : DefX K mg "law" "law" stlaw [] [] f fd) (MSheet_m_looks_0 : MthG P w K mg base 4 "Sheet" "looks" 0 [] (fun ds _ => ds) mSheet_m_looks) (MSheet_m_steps_0 : MthG P w K mg base 1 "Sheet" "steps" 0 [] (fun ds _ => ds) mSheet_m_steps) (QTable_m___init___0 : MakG P w K mg base 2 "Table" 0 [] (fun ds es => pickL [0, 1] (ds ++ ([.int (2)] ++ es))) mTable_m___init__) (QTable_m___init___0_hands : MakG P w K mg base 2 "Table" 0 ["hands"] (fun ds es => pickL [0, 1] (ds ++ es)) mTable_m___init__) (MTable_m___eq___1 : MthG P w K mg base 1 "Table" "__eq__" 1 [] (fun ds _ => ds) mTable_m___eq__) (MTable_m___repr___0 : MthG P w K mg base 2 "Table" "__repr__" 0 [] (fun ds _ => ds) mTable_m___repr__) (MTable_m_undo_0 : MthG P w K mg base 2 "Table" "undo" 0 [] (fun ds _ => ds) mTable_m_undo) (MTable_m_redo_0 : MthG P w K mg base 2 "Table" "redo" 0 [] (fun ds _ => ds) mTable_m_redo) (MTable_m_done_0 : MthG P w K mg base 1 "Table" "done" 0 [] (fun ds _ => ds) mTable_m_done) (MTable_m_sheet_0 : MthG P w K mg base 9 "Table" "sheet" 0 [] (fun ds _ => ds) mTable_m_sheet) (C_law_bag_1 : CalG P w K mg base 1 "_law_bag" 1 [] (fun ds _ => ds) m_law_bag) (C_law_get_2 : CalG P w K mg base 1 "_law_get" 2 [] (fun ds _ => ds) m_law_get) (C_law_same_2 : CalG P w K mg base 41 "_law_same" 2 [] (fun ds _ => ds) m_law_same) (C_law_now_1 : CalG P w K mg base 1 "_law_now" 1 [] (fun ds _ => ds) m_law_now) (C_law_stands_so_2 : CalG P w K mg base 42 "_law_stands_so" 2 [] (fun ds _ => ds) m_law_stands_so) {f_ask : Addr} {d_ask : FuncData} (C_law_ask : AskAt K mg st_law_ask f_ask d_ask clA) (LC : LawC K mg base fd.code) : FnG P w K mg base (L2.CX P w) 43 f fd ["_law_script"] (spM ⟨K, mg⟩ (["_law_script"] : List Str).length mlaw) := (fn_okXT Flaw LC sclaw fun cdv A outer s H E hc hr =>
    (s_cons (s_set 1 (e_calG C_law_bag_1 (hr.mono (by decide)) (takes_of rfl rfl rfl rfl) (a_cons (e_var 0) a_nil) k_nil) sclaw.nd)
    (s_cons (s_for rfl (i_anyD (SO.fz (e_lst (a_cons e_int (a_cons e_int (a_cons e_int (a_cons (SO.fz (o_add e_int (e_calG C_law_get_2 (hr.mono (by decide)) (takes_of rfl rfl rfl rfl) (a_cons (e_var 1) (a_cons e_int a_nil)) k_nil))) a_nil))))))) (g_name 2 sclaw.nd) (s_cons (s_set 3 (e_makG0 QTable_m___init___0_hands (hr.mono (by decide)) (takes_of rfl rfl rfl rfl) (k_cons (e_var 2) k_nil)) sclaw.nd)
    (s_cons (s_set 4 (SO.fz (e_lst (a_cons (e_mthG0 MTable_m_done_0 (hr.mono (by decide)) (takes_of rfl rfl rfl rfl) (e_var 3) k_nil) (a_cons (SO.fz (e_reprO MTable_m___repr___0 (hr.mono (by decide)) T.b_repr PyProof.Rows.boot_repr (a_cons (e_var 3) a_nil))) a_nil)))) sclaw.nd)
    (s_cons (s_if (t_w (w_or (t_not (t_tru (e_calG C_law_stands_so_2 (hr.mono (by decide)) (takes_of rfl rfl rfl rfl) (a_cons (e_var 3) (a_cons (e_calG C_law_now_1 (hr.mono (by decide)) (takes_of rfl rfl rfl rfl) (a_cons (e_var 2) a_nil) k_nil) a_nil)) k_nil))) (w_or1 (t_not (t_tru (e_calG C_law_same_2 (hr.mono (by decide)) (takes_of rfl rfl rfl rfl) (a_cons (e_var 4) (a_cons (SO.fz (e_lst (a_cons (SO.fz (e_lst a_nil)) (a_cons (e_js (sj_cons e_str (sj_cons (e_fmt (e_var 2)) (sj_cons e_str sj_nil)))) a_nil)))) a_nil)) k_nil)))))) (s_one (s_ret e_bl)) s_nil)
    (s_cons (s_if (t_w (w_or (t_not (t_tru (e_calG C_law_same_2 (hr.mono (by decide)) (takes_of rfl rfl rfl rfl) (a_cons (SO.fz (e_lst (a_cons (e_mthG0 MSheet_m_looks_0 (hr.mono (by decide)) (takes_of rfl rfl rfl rfl) (e_mthG0 MTable_m_sheet_0 (hr.mono (by decide)) (takes_of rfl rfl rfl rfl) (e_var 3) k_nil) k_nil) (a_cons (e_mthG0 MSheet_m_steps_0 (hr.mono (by decide)) (takes_of rfl rfl rfl rfl) (e_mthG0 MTable_m_sheet_0 (hr.mono (by decide)) (takes_of rfl rfl rfl rfl) (e_var 3) k_nil) k_nil) a_nil)))) (a_cons (SO.fz (e_lst (a_cons (SO.fz e_dict0) (a_cons (SO.fz (e_lst a_nil)) a_nil)))) a_nil)) k_nil))) (w_or1 (t_neO MTable_m___eq___1 T.n_Table (hr.mono (by decide)) (e_var 3) (e_makG0 QTable_m___init___0_hands (hr.mono (by decide)) (takes_of rfl rfl rfl rfl) (k_cons (e_var 2) k_nil)))))) (s_one (s_ret e_bl)) s_nil)
    (s_cons (s_set 5 (SO.own (e_lst (a_cons (e_askG (k := 40) C_law_ask hc (fun A outer s H E f c1 hr => (e_mthG0 MTable_m_undo_0 (hr.mono (by decide)) (takes_of rfl rfl rfl rfl) (e_var 3) k_nil)) (hr.mono (by decide)) (LamX.lamS_by (show LamX.lamSB (defScope stlaw) _ = true from by decide +kernel))) a_nil))) sclaw.nd)
    (s_cons (s_expr (SO.fz (e_meth PySem.F.plainAttrs_list PySem.F.slot_list_append PySem.F.type_list_append mt_append isOwnL_ty s_app (e_var 5) (a_cons (e_askG (k := 40) C_law_ask hc (fun A outer s H E f c1 hr => (e_mthG0 MTable_m_redo_0 (hr.mono (by decide)) (takes_of rfl rfl rfl rfl) (e_var 3) k_nil)) (hr.mono (by decide)) (LamX.lamS_by (show LamX.lamSB (defScope stlaw) _ = true from by decide +kernel))) a_nil))))
    (s_one (s_if (t_ne hr.r (e_var 5) (SO.fz (o_mul (SO.fz (e_lst (a_cons (e_tup (a_cons e_non (a_cons e_str a_nil))) a_nil))) e_int))) (s_one (s_ret e_bl)) s_nil)))))))) (passes_of rfl))
    (s_cons (s_for rfl (i_anyD (SO.fz (e_lst (a_cons e_int (a_cons e_int (a_cons e_int (a_cons (e_neg e_int) (a_cons e_bl (a_cons e_bl (a_cons e_non (a_cons e_str (a_cons (SO.fz (e_lst (a_cons e_int a_nil))) (a_cons (SO.fz e_dict0) (a_cons (e_tup (a_cons e_int a_nil)) (a_cons (SO.fz (o_add e_int (e_calG C_law_get_2 (hr.mono (by decide)) (takes_of rfl rfl rfl rfl) (a_cons (e_var 1) (a_cons (SO.fz (o_pow e_int e_int)) a_nil)) k_nil))) a_nil))))))))))))))) (g_name 2 sclaw.nd) (s_one (s_if (t_ne hr.r (e_askG (k := 40) C_law_ask hc (fun A outer s H E f c1 hr => (e_makG0 QTable_m___init___0_hands (hr.mono (by decide)) (takes_of rfl rfl rfl rfl) (k_cons (e_var 2) k_nil))) (hr.mono (by decide)) (LamX.lamS_by (show LamX.lamSB (defScope stlaw) _ = true from by decide +kernel))) (e_tup (a_cons e_non (a_cons e_str a_nil)))) (s_one (s_ret e_bl)) s_nil)) (passes_of rfl))
    (s_one (s_ret (e_and (e_eqO MTable_m___eq___1 (hr.mono (by decide)) (e_makG0 QTable_m___init___0 (hr.mono (by decide)) (takes_of rfl rfl rfl rfl) k_nil) (e_makG0 QTable_m___init___0_hands (hr.mono (by decide)) (takes_of rfl rfl rfl rfl) (k_cons e_int k_nil))) (e_one (e_neO MTable_m___eq___1 T.n_Table (hr.mono (by decide)) (e_makG0 QTable_m___init___0 (hr.mono (by decide)) (takes_of rfl rfl rfl rfl) k_nil) (e_makG0 QTable_m___init___0_hands (hr.mono (by decide)) (takes_of rfl rfl rfl rfl) (k_cons e_int k_nil)))))))))))
end
end Law
namespace DD
open PySem PySem.Spec L2 RZ
theorem at0 {α : Type} (a : α) (r : List α) : atI (a :: r) 0 = some a := by simp [atI, ixN]
theorem at1 {α : Type} (a b : α) (r : List α) : atI (a :: b :: r) 1 = some b := atI_at (j := 1) rfl rfl
@[simp] theorem eqStr {h : Hd} (a b : Str) : cEq (.str a) (.str b) h = .ok (decide (a = b)) h := by
  show optR (some (decide (V.str a = V.str b))) h = _
  simp
@[simp] theorem neStr {h : Hd} (a b : Str) : cNe (.str a) (.str b) h = .ok (!decide (a = b)) h := by
  show optR (some (!decide (V.str a = V.str b))) h = _
  simp
@[simp] theorem neInt {h : Hd} (i j : Int) : cNe (.int i) (.int j) h = .ok (!decide (i = j)) h := by
  show optR (some (!decide (V.int i = V.int j))) h = _
  simp
end DD
namespace Law
open PySem PySem.Spec L2 RZ DD
/-- the bag in the first cell -/
def bagC (cs : List Int) (p n2 n3 n4 n5 : Int) : Cell := .lst [.lst (cs.map .int), .int p, .int n2, .int n3, .int n4, .int n5]
theorem six {α : Type} (a b c d e f : α) : atI [a, b, c, d, e, f] 0 = some a ∧ atI [a, b, c, d, e, f] 1 = some b ∧ atI [a, b, c, d, e, f] 2 = some c ∧ atI [a, b, c, d, e, f] 3 = some d ∧ atI [a, b, c, d, e, f] 4 = some e ∧ atI [a, b, c, d, e, f] 5 = some f := ⟨rfl, rfl, rfl, rfl, rfl, rfl⟩
theorem ix6 : ixN 6 0 = some 0 ∧ ixN 6 1 = some 1 ∧ ixN 6 2 = some 2 ∧ ixN 6 3 = some 3 ∧ ixN 6 4 = some 4 ∧ ixN 6 5 = some 5 := ⟨rfl, rfl, rfl, rfl, rfl, rfl⟩
theorem get1 (cs : List Int) (p n2 n3 n4 n5 sz : Int) (t : Hd) (hp : 0 ≤ p) (h2 : 0 ≤ n2) (h3 : 0 ≤ n3 ∧ n3 < 2147483579) (hs : 0 < sz ∧ sz < 1000000000000000000000000000000) (hc : cs.length ≤ 63) :
    ∃ i p' n2' n3' n4', m_law_get [.ref 0, .int sz] (bagC cs p n2 n3 n4 n5 :: t) = .ok (.int i) (bagC cs p' n2' n3' n4' n5 :: t) ∧ (0 ≤ i ∧ i < sz) ∧ 0 ≤ p' ∧ 0 ≤ n2' ∧ (0 ≤ n3' ∧ n3' < 2147483579) := by
  have e18 : (10 : Int) ^ (18 : Int).toNat = 1000000000000000000 := by decide
  have hz : cs.length ≤ sizeLine := Nat.le_trans hc (by decide)
  have m3 : ∀ x : Int, 0 ≤ x % 2147483579 ∧ x % 2147483579 < 2147483579 := fun x => ⟨Int.emod_nonneg _ (by decide), Int.emod_lt_of_pos _ (by decide)⟩
  have ms : ∀ x : Int, 0 ≤ x % sz ∧ x % sz < sz := fun x => ⟨Int.emod_nonneg _ (by omega), Int.emod_lt_of_pos _ hs.1⟩
  have rng : ∀ x : Int, 0 ≤ x ∧ x < 2147483579 → (-(2 ^ 64) < x ∧ x < 2 ^ 64) := fun x h => by omega
  have rm : ∀ x : Int, (-18446744073709551616 < x % 2147483579 ∧ x % 2147483579 < 18446744073709551616) := fun x => by have := m3 x; omega
  by_cases c1 : n2 < sz
  · by_cases c2 : p < (cs.length : Int)
    · obtain ⟨c, hcell⟩ : ∃ c, atI (cs.map D.int) p = some (.int c) := by
        have hl : p.toNat < cs.length := by omega
        exact ⟨cs[p.toNat], atI_at (j := p.toNat) (by omega) (by simp [hl])⟩
      by_cases c3 : (1000000000000000000 : Int) ≤ c
      · by_cases c4 : sz ≤ c
        · refine ⟨c % sz, p + 1, c / sz, (n3 * 40014 + c % 1000000007 * 9241 + 83) % 2147483579, n4 + 1, ?_, ms _, by omega, Int.ediv_nonneg (by omega) (by omega), m3 _⟩
          unfold m_law_get b_law_get bagC
          simp [six, ix6, lenF, valR, c1, c2, hcell, c3, c4, rng _ h3, hs, e18]
        · let s := (((n3 * 40014 + c % 1000000007 * 9241 + 83) % 2147483579) * 68909 + (n4 + 1) * 30269 + 1000003) % 2147483579
          refine ⟨(s * s / 32771 + s / 41) % sz, p + 1, c, s, n4 + 1, ?_, ms _, by omega, by omega, m3 _⟩
          unfold m_law_get b_law_get bagC
          simp [six, ix6, lenF, valR, c1, c2, hcell, c3, c4, rng _ h3, hs, e18, rm, s]
      · have c5 : ¬ sz ≤ 0 := by omega
        let s := (((n3 * 40014 + c % 1000000007 * 9241 + 83) % 2147483579) * 68909 + (n4 + 1) * 30269 + 1000003) % 2147483579
        refine ⟨(s * s / 32771 + s / 41) % sz, p + 1, 0, s, n4 + 1, ?_, ms _, by omega, by omega, m3 _⟩
        unfold m_law_get b_law_get bagC
        simp [six, ix6, lenF, valR, c1, c2, hcell, c3, c5, rng _ h3, hs, e18, rm, s]
    · have c5 : ¬ sz ≤ n2 := by omega
      let s := (n3 * 68909 + (n4 + 1) * 30269 + 1000003) % 2147483579
      refine ⟨(s * s / 32771 + s / 41) % sz, p, n2, s, n4 + 1, ?_, ms _, hp, h2, m3 _⟩
      unfold m_law_get b_law_get bagC
      simp [six, ix6, lenF, valR, c1, c2, c5, rng _ h3, hs, e18, rm, s]
  · have c4 : sz ≤ n2 := by omega
    refine ⟨n2 % sz, p, n2 / sz, n3, n4 + 1, ?_, ms _, hp, Int.ediv_nonneg (by omega) (by omega), h3⟩
    unfold m_law_get b_law_get bagC
    simp [six, ix6, lenF, valR, c1, c4, hs]
def BagT (t h : Hd) : Prop := ∃ cs p n2 n3 n4 n5, h = bagC cs p n2 n3 n4 n5 :: t ∧ cs.length ≤ 63 ∧ 0 ≤ p ∧ 0 ≤ n2 ∧ (0 ≤ n3 ∧ n3 < 2147483579)
theorem get_ok {t h : Hd} {sz : Int} (b : BagT t h) (hs : 0 < sz ∧ sz < 1000000000000000000000000000000) : ∃ i h', m_law_get [.ref 0, .int sz] h = .ok (.int i) h' ∧ (0 ≤ i ∧ i < sz) ∧ BagT t h' := by
  obtain ⟨cs, p, n2, n3, n4, n5, rfl, hc, hp, h2, h3⟩ := b
  obtain ⟨i, p', n2', n3', n4', e, hi, hp', h2', h3'⟩ := get1 cs p n2 n3 n4 n5 sz t hp h2 h3 hs hc
  exact ⟨i, _, e, hi, _, _, _, _, _, _, rfl, hc, hp', h2', h3'⟩
theorem BagT.get {t h : Hd} (b : BagT t h) (r : Nat) : h[r + 1]? = t[r]? := by
  obtain ⟨cs, p, n2, n3, n4, n5, rfl, _⟩ := b
  rfl
theorem BagT.len {t h : Hd} (b : BagT t h) : h.length = t.length + 1 := by
  obtain ⟨cs, p, n2, n3, n4, n5, rfl, _⟩ := b
  rfl
theorem BagT.push {t h : Hd} (b : BagT t h) (z : Cell) : BagT (t ++ [z]) (h ++ [z]) := by
  obtain ⟨cs, p, n2, n3, n4, n5, rfl, q⟩ := b
  exact ⟨cs, p, n2, n3, n4, n5, rfl, q⟩
theorem BagT.app {t h : Hd} (b : BagT t h) (z : Hd) : BagT (t ++ z) (h ++ z) := by
  obtain ⟨cs, p, n2, n3, n4, n5, rfl, q⟩ := b
  exact ⟨cs, p, n2, n3, n4, n5, rfl, q⟩
theorem BagT.set {t h : Hd} (b : BagT t h) (r : Nat) (z : Cell) : BagT (t.set r z) (h.set (r + 1) z) := by
  obtain ⟨cs, p, n2, n3, n4, n5, rfl, q⟩ := b
  exact ⟨cs, p, n2, n3, n4, n5, rfl, q⟩
/-- the bag, its tail may have grown behind t -/
def BagE (t h : Hd) : Prop := ∃ e, BagT (t ++ e) h
section
variable {t h : Hd}
theorem BagE.of (b : BagT t h) : BagE t h := ⟨[], by simpa using b⟩
theorem BagE.weak {e : Hd} (b : BagE (t ++ e) h) : BagE t h := let ⟨e2, b⟩ := b; ⟨e ++ e2, by rw [← List.append_assoc]; exact b⟩
theorem BagE.get (b : BagE t h) {r : Nat} (hr : r < t.length) : h[r + 1]? = t[r]? := by
  obtain ⟨e, b⟩ := b
  rw [b.get, List.getElem?_append_left hr]
theorem BagE.set (b : BagE t h) {r : Nat} (hr : r < t.length) (z : Cell) : BagE (t.set r z) (h.set (r + 1) z) := by
  obtain ⟨e, b⟩ := b
  exact ⟨e, by have := b.set r z; rwa [List.set_append_left _ _ hr] at this⟩
theorem BagE.app (b : BagE t h) (z : Hd) : BagE t (h ++ z) := by
  obtain ⟨e, b⟩ := b
  exact ⟨e ++ z, by rw [← List.append_assoc]; exact b.app z⟩
/-- a new cell -/
theorem BagE.new (b : BagE t h) (z : Cell) : ∃ e, h.length = (t ++ e).length + 1 ∧ BagE (t ++ e ++ [z]) (h ++ [z]) := by
  obtain ⟨e, b⟩ := b
  exact ⟨e, b.len, .of (b.push z)⟩
theorem getE {sz : Int} (b : BagE t h) (hs : 0 < sz ∧ sz < 1000000000000000000000000000000) : ∃ i h', m_law_get [.ref 0, .int sz] h = .ok (.int i) h' ∧ (0 ≤ i ∧ i < sz) ∧ BagE t h' := by
  obtain ⟨e, b⟩ := b
  obtain ⟨i, h', q, hi, b'⟩ := get_ok b hs
  exact ⟨i, h', q, hi, e, b'⟩
end
theorem dispOf {h : Hd} {ps : List (D × D)} {kk : List Key} (e : keysD (ps.map (·.1)) = some kk) (hn : kk.Nodup) (hl : kk.length ≤ 15) : dispF ps h = .ok (.new (.dct (ps.map (·.1)) (ps.map (·.2)))) h := by
  unfold dispF
  rw [e]
  simp only []
  rw [if_pos ⟨hn, hl⟩]
theorem appF_at {h : Hd} {r : Nat} {xs : List D} {d : D} (e : h[r]? = some (.lst xs)) (hz : xs.length ≤ 10000) : appF (.ref r) [d] h = .ok (.val .non) (h.set r (.lst (xs ++ [d]))) := by
  have z : xs.length < sizeLine := Nat.lt_of_le_of_lt hz (by rw [sizeLine_eq]; decide)
  simp only [appF, e]
  rw [if_pos z]
theorem isOwn_at {h : Hd} {r : Nat} {xs : List D} (e : h[r]? = some (.lst xs)) : isOwnL h (.ref r) = true := by simp only [isOwnL, e]
section
variable {h : Hd} {a b c d e z : Cell} {t : Hd}
@[simp] theorem cat0 : (h ++ z :: t)[h.length]? = some z := by simp
@[simp] theorem cat1 : (h ++ a :: z :: t)[h.length + 1]? = some z := by simp [List.getElem?_append]
@[simp] theorem cat2 : (h ++ a :: b :: z :: t)[h.length + 2]? = some z := by simp [List.getElem?_append]
@[simp] theorem cat3 : (h ++ a :: b :: c :: z :: t)[h.length + 3]? = some z := by simp [List.getElem?_append]
@[simp] theorem cat4 : (h ++ a :: b :: c :: d :: z :: t)[h.length + 4]? = some z := by simp [List.getElem?_append]
@[simp] theorem cset0 : (h ++ z :: t).set h.length a = h ++ a :: t := by simp
@[simp] theorem cset1 : (h ++ b :: z :: t).set (h.length + 1) a = h ++ b :: a :: t := by simp [List.set_append]
@[simp] theorem cset2 : (h ++ b :: c :: z :: t).set (h.length + 2) a = h ++ b :: c :: a :: t := by simp [List.set_append]
@[simp] theorem cset3 : (h ++ b :: c :: d :: z :: t).set (h.length + 3) a = h ++ b :: c :: d :: a :: t := by simp [List.set_append]
end
def lk : List D := [.str "hand", .str "kinds", .str "colours", .str "force", .str "guard", .str "writs"]
section
variable {a b c d e f : D}
theorem lk_force : valD lk [a, b, c, d, e, f] (.inr "force") = some d := by simp [lk, valG, keyD, ofS_inj]
theorem lk_guard : valD lk [a, b, c, d, e, f] (.inr "guard") = some e := by simp [lk, valG, keyD, ofS_inj]
theorem lk_writs : valD lk [a, b, c, d, e, f] (.inr "writs") = some f := by simp [lk, valG, keyD, ofS_inj]
end
/-- a writ with its name -/
def nameW (mo n : Int) : D → D
  | .tup [i, x] => .tup [.tup [.int mo, .int n, i], x]
  | d => d
/-- a thing of the board -/
structure Th where
  n : Int
  hd : Int
  mo : Int
  us : List Str
  vs : List Str
  fo : Int
  gu : Int
  ws : List D
  mrk : Int
def cardD (t : Th) : D := .tup [.tup (t.us.map .str), .tup (t.vs.map .str), .int t.fo, .int t.gu, .tup t.ws]
def thD (t : Th) : D := .tup [.int t.hd, .int t.mo, cardD t, .int t.mrk]
def namedD (t : Th) : List D := (enumD t.ws).map (nameW t.mo t.n)
/-- the look with force and guard more -/
def lookD (t : Th) (k : Int) : D := .dct lk [.int t.hd, .tup (t.us.map .str), .tup (t.vs.map .str), .int (t.fo + k), .int (t.gu + k), .tup (namedD t)]
theorem enum_at {xs : List D} {d : D} (m : d ∈ enumD xs) : ∃ i x, d = .tup [i, x] ∧ x ∈ xs := by
  unfold enumD zipD at m
  obtain ⟨p, hp, rfl⟩ := List.mem_map.mp m
  exact ⟨p.1, p.2, rfl, (List.of_mem_zip hp).2⟩
theorem dispL {h : Hd} {a b c d e f : D} : dispF [(D.str "hand", a), (.str "kinds", b), (.str "colours", c), (.str "force", d), (.str "guard", e), (.str "writs", f)] h = .ok (.new (.dct lk [a, b, c, d, e, f])) h :=
  dispOf (kk := [.inr "hand", .inr "kinds", .inr "colours", .inr "force", .inr "guard", .inr "writs"]) rfl (by simp [ofS_inj]) (by simp)
theorem first_ok (t : Th) (hl : t.ws.length ≤ 100) (h : Hd) : mfirst_look [.int t.n, .int t.hd, .int t.mo, cardD t] h = .ok (lookD t 0) h := by
  unfold cardD
  generalize hc : (D.tup [.tup (t.us.map .str), .tup (t.vs.map .str), .int t.fo, .int t.gu, .tup t.ws]) = cd
  have l := lcGo_pure (chk := fun _ => True) (g := gTupM 2 (gsCons (DD.gSet 10) (gsCons (DD.gSet 11) gsNil))) (t := tYesM) (e := mTup (aCons (mTup (aCons (mVar 2) (aCons (mVar 0) (aCons (mVar 10) aNil)))) (aCons (mVar 11) aNil))) (h := h) (ρ := [some (.int t.n), some (.int t.hd), some (.int t.mo), some cd, some (.tup (t.us.map .str)), some (.tup (t.vs.map .str)), some (.int t.fo), some (.int t.gu), some (.tup t.ws), none, none, none]) (nameW t.mo t.n) trivial (enumD t.ws) [] (fun d m => by
    obtain ⟨i, x, rfl, _⟩ := enum_at m
    exact ⟨[some (.int t.n), some (.int t.hd), some (.int t.mo), some cd, some (.tup (t.us.map .str)), some (.tup (t.vs.map .str)), some (.int t.fo), some (.int t.gu), some (.tup t.ws), none, some i, some x], by simp, rfl, by simp [nameW]⟩) (sz_big (by rw [enumD_len]; simp; omega))
  subst hc
  have hz : (List.map (nameW t.mo t.n) (enumD t.ws)).length ≤ sizeLine := sz_big (by rw [List.length_map, enumD_len]; omega)
  unfold mfirst_look bfirst_look
  simp at l
  simp [lookD, namedD, l, dispL]
section
variable {h : Hd} {a b c d e f v : D}
theorem pu_force : putU lk [a, b, c, d, e, f] (.inr "force") v = [a, b, c, v, e, f] := by simp [lk, putG, keyD, ofS_inj]
theorem pu_guard : putU lk [a, b, c, d, e, f] (.inr "guard") v = [a, b, c, d, v, f] := by simp [lk, putG, keyD, ofS_inj]
theorem put_force {r : Nat} (q : h[r]? = some (.dct lk [a, b, c, d, e, f])) : dputF (.ref r) (.str "force") v h = some (h.set r (.dct lk [a, b, c, v, e, f])) := by
  unfold dputF; simp only [q, keyD]; rw [if_pos (by simp [lk])]; unfold dctPut; rw [lk_force, pu_force]
theorem put_guard {r : Nat} (q : h[r]? = some (.dct lk [a, b, c, d, e, f])) : dputF (.ref r) (.str "guard") v h = some (h.set r (.dct lk [a, b, c, d, v, f])) := by
  unfold dputF; simp only [q, keyD]; rw [if_pos (by simp [lk])]; unfold dctPut; rw [lk_guard, pu_guard]
theorem dict_ref {r : Nat} {ks us : List D} (q : h[r]? = some (.dct ks us)) : dictF [.ref r] h = .ok (.new (.dct ks us)) h := by
  unfold dictF; simp [dctOf, q]
theorem turned_force : mturned [.dct lk [a, b, c, d, e, f], .str "force", v] h = .ok (.ref h.length) (h ++ [.dct lk [a, b, c, v, e, f]]) := by
  unfold mturned bturned
  simp [put_force (cat0 (h := h) (t := []))]
theorem turned_guard {r : Nat} (q : h[r]? = some (.dct lk [a, b, c, d, e, f])) : mturned [.ref r, .str "guard", v] h = .ok (.ref h.length) (h ++ [.dct lk [a, b, c, d, v, f]]) := by
  unfold mturned bturned
  simp [dict_ref q, put_guard (cat0 (h := h) (t := []))]
end
theorem more_ok (t : Th) (k : Int) (h : Hd) : mof_numbers [lookD t 0, .str "more", .tup [.int k, .int k]] h = .ok (lookD t k) (h ++ [.dct lk [.int t.hd, .tup (t.us.map .str), .tup (t.vs.map .str), .int (t.fo + k), .int t.gu, .tup (namedD t)], .gone]) := by
  unfold mof_numbers bof_numbers lookD
  simp [lk_force, lk_guard, ofS_inj, turned_force, turned_guard cat0, frzD, at0, at1]
/-- a for statement over a list: what is done so far -/
theorem forGo_acc {α : Type} {chk : Hd → Prop} {g : MG} {b : MS} (fi : α → D) (S : List α → DD.Env → Hd → Prop) (hc : ∀ done ρ h, S done ρ h → chk h) (all : List α)
    (st : ∀ done x rest ρ h, all = done ++ x :: rest → S done ρ h → ∃ ρ1 ρ2 h', g (fi x) ρ h = .ok ρ1 h ∧ b ρ1 h = .nx ρ2 h' ∧ S (done ++ [x]) ρ2 h') :
    ∀ (rest done : List α) (ρ : DD.Env) (h : Hd), all = done ++ rest → S done ρ h → ∃ ρ' h', forGo chk g b (rest.map fi) ρ h = .nx ρ' h' ∧ S all ρ' h'
  | [], done, ρ, h, e, s => ⟨ρ, h, by unfold forGo; rw [List.map_nil]; simp only []; rw [if_pos (hc done ρ h s)], by rw [e, List.append_nil]; exact s⟩
  | x :: rest, done, ρ, h, e, s => by
    obtain ⟨ρ1, ρ2, h1, a1, a2, s1⟩ := st done x rest ρ h e s
    obtain ⟨ρ3, h3, b1, b2⟩ := forGo_acc fi S hc all st rest (done ++ [x]) ρ2 h1 (by rw [e]; simp) s1
    refine ⟨ρ3, h3, ?_, b2⟩
    rw [List.map_cons]
    unfold forGo
    rw [if_pos (hc done ρ h s)]
    simp only [a1, a2, afterB]
    exact b1
theorem val_at {α : Type} {k : α → Int} {f : α → D} : ∀ {ts : List α} {t : α}, (ts.map k).Nodup → t ∈ ts → valD (ts.map fun t => .int (k t)) (ts.map f) (.inl (k t)) = some (f t)
  | [], _, _, m => nomatch m
  | x :: ts, t, nd, m => by
    simp only [List.map_cons, List.nodup_cons] at nd
    rcases List.mem_cons.mp m with rfl | m
    · simp [valG, keyD]
    · have ne : k x ≠ k t := fun e => nd.1 (e ▸ List.mem_map_of_mem m)
      rw [List.map_cons, List.map_cons]
      unfold valG
      rw [if_neg (by simp [keyD, ne])]
      exact val_at nd.2 m
theorem val_no {α : Type} {k : α → Int} {f : α → D} {n : Int} : ∀ {ts : List α}, n ∉ ts.map k → valD (ts.map fun t => .int (k t)) (ts.map f) (.inl n) = none
  | [], _ => rfl
  | x :: ts, m => by
    simp only [List.map_cons, List.mem_cons, not_or] at m
    rw [List.map_cons, List.map_cons]
    unfold valG
    rw [if_neg (by simp [keyD]; exact fun e => m.1 e.symm)]
    exact val_no m.2
theorem put_new {α : Type} {k : α → Int} {f : α → D} {n : Int} {v : D} {ts : List α} {h : Hd} {r : Nat} (e : h[r]? = some (.dct (ts.map fun t => .int (k t)) (ts.map f))) (m : n ∉ ts.map k) (hz : ts.length < 1000) :
    dputF (.ref r) (.int n) v h = some (h.set r (.dct ((ts.map fun t => .int (k t)) ++ [.int n]) (ts.map f ++ [v]))) := by
  unfold dputF
  simp only [e, keyD]
  rw [if_pos (by simpa using hz)]
  unfold dctPut
  rw [val_no m]
/-- the stand: looks with k more -/
def keysT (ts : List Th) : List D := ts.map fun t => .int t.n
def shownD (ts : List Th) (k : Th → Int) : D := .dct (keysT ts) (ts.map fun t => lookD t (k t))
def standD (ts : List Th) (k : Th → Int) : D := .ins "Stand" ["shown", "came"] [shownD ts k, .int 10]
theorem stand_init (h : Hd) (a b : D) : mStand_m___init__ [.ref h.length, a, b] (h ++ [.ins "Stand" [] []]) = .ok .non (h ++ [.ins "Stand" ["shown", "came"] [a, b]]) := by
  unfold mStand_m___init__ bStand_m___init__
  simp [fldS, putN, putUs, ofS_inj]
theorem shown_of {h : Hd} {a b : D} : ((insOf h "Stand" (.ins "Stand" ["shown", "came"] [a, b])).bind fun p => lookL "shown" p.1 p.2) = some a := by simp [insOf, lookL]
theorem came_of {h : Hd} {a b : D} : ((insOf h "Stand" (.ins "Stand" ["shown", "came"] [a, b])).bind fun p => lookL "came" p.1 p.2) = some b := by simp [insOf, lookL, ofS_inj]
theorem at_app {h z : Hd} {r : Nat} {c : Cell} (e : h[r]? = some c) : (h ++ z)[r]? = some c := by
  rw [List.getElem?_append_left (List.getElem?_eq_some_iff.mp e).1]; exact e
theorem pairs_T (ts : List Th) (f : Th → D) : pairsD (keysT ts) (ts.map f) = ts.map fun t => .tup [.int t.n, f t] := by
  unfold pairsD keysT
  rw [List.zip_map', List.map_map]; rfl
theorem marked_ok (ts : List Th) (nd : (ts.map Th.n).Nodup) (hz : ts.length ≤ 60) (h : Hd) (rm : Nat) (hm : h[rm]? = some (.dct (keysT ts) (ts.map fun t => .int t.mrk))) :
    ∃ e, mmarked [standD ts (fun _ => 0), .ref rm] h = .ok (standD ts Th.mrk) (h ++ e) := by
  have q : ∀ {z : Hd}, (h ++ z)[rm]? = some (.dct (keysT ts) (ts.map fun t => .int t.mrk)) := fun {z} => at_app hm
  obtain ⟨ρ', h', e1, a3, a4, e, rfl, rfl⟩ := forGo_acc (chk := fun _ => True) (g := gTupM 2 (gsCons (DD.gSet 3) (gsCons (DD.gSet 4) gsNil)))
    (b := mDPut (mVar 2) (mVar 3) (mCalG 3 0 (fun ds _ => ds) mof_numbers (aCons (mVar 4) (aCons (mC (.str "more")) (aCons (mTup (aCons (mIxD (mVar 1) (mVar 3)) (aCons (mIxD (mVar 1) (mVar 3)) aNil))) aNil))) aNil))
    (fun t : Th => .tup [.int t.n, lookD t 0])
    (fun done ρ h' => ∃ (a3 a4 : Option D) (e : Hd), ρ = [some (standD ts fun _ => 0), some (.ref rm), some (.ref h.length), a3, a4] ∧ h' = h ++ .dct (keysT done) (done.map fun t => lookD t t.mrk) :: e)
    (fun _ _ _ _ => trivial) ts (fun done t rest ρ h' ee ⟨a3, a4, e, er, eh⟩ => by
      subst er eh
      have mt : t ∈ ts := by rw [ee]; simp
      have nt : t.n ∉ done.map Th.n := by
        rw [ee, List.map_append, List.nodup_append] at nd
        exact fun m => nd.2.2 _ m _ (by simp) rfl
      have hd : done.length < 1000 := by have := congrArg List.length ee; simp at this; omega
      have vm := val_at (k := Th.n) (f := fun t => .int t.mrk) nd mt
      have pn := put_new (h := h ++ Cell.dct (keysT done) (done.map fun t => lookD t t.mrk) :: (e ++ [.dct lk [.int t.hd, .tup (t.us.map .str), .tup (t.vs.map .str), .int (t.fo + t.mrk), .int t.gu, .tup (namedD t)], .gone])) (k := Th.n) (f := fun t => lookD t t.mrk) (ts := done) (r := h.length) (v := lookD t t.mrk) (n := t.n) cat0 nt hd
      refine ⟨[some (standD ts fun _ => 0), some (.ref rm), some (.ref h.length), some (.int t.n), some (lookD t 0)], [some (standD ts fun _ => 0), some (.ref rm), some (.ref h.length), some (.int t.n), some (lookD t 0)], _, by simp, ?_, some (.int t.n), some (lookD t 0), e ++ [.dct lk [.int t.hd, .tup (t.us.map .str), .tup (t.vs.map .str), .int (t.fo + t.mrk), .int t.gu, .tup (namedD t)], .gone], rfl, rfl⟩
      rw [cset0] at pn
      simp [q, keysT, vm, more_ok]
      simp [keysT] at pn
      simp [pn])
    ts [] [some (standD ts fun _ => 0), some (.ref rm), some (.ref h.length), none, none] (h ++ [.dct [] []]) rfl ⟨none, none, [], rfl, rfl⟩
  refine ⟨.gone :: (e ++ [.gone]), ?_⟩
  unfold mmarked bmarked
  have si := stand_init (h ++ .gone :: e) (.dct (keysT ts) (ts.map fun t => lookD t t.mrk)) (.int 10)
  simp at si
  simp [standD, shownD, shown_of, came_of, itemsD, pairs_T]
  simp [standD, shownD] at e1
  simp [e1, frzD, came_of, si]
@[simp] theorem mDictT_k (ρ : DD.Env) (h : Hd) : mDictT ρ h = .ok (.new (.dtt [] [])) h := rfl
theorem keysI_nums : ∀ ns : List Int, keysI (ns.map D.int) = some ns
  | [] => rfl
  | n :: ns => by simp only [List.map_cons, keysI, keysI_nums ns, Option.map_some]
theorem srtG_T (ts : List Th) (us : List D) (hz : ts.length ≤ 60) {h : Hd} : srtGF [.dct (keysT ts) us] h = .ok (.new (.lst ((srtI (ts.map Th.n)).map .int))) h := by
  have e : keysT ts = (ts.map Th.n).map .int := by simp [keysT]
  rw [e]
  exact srtG_dct _ _ (by simp; omega) (keysI_nums _)
theorem val_T {ts : List Th} {f : Th → D} (nd : (ts.map Th.n).Nodup) {t : Th} (m : t ∈ ts) : valD (keysT ts) (ts.map f) (.inl t.n) = some (f t) := val_at nd m
theorem look_writs {h : Hd} (t : Th) (k : Int) : ixDF h (lookD t k) (.str "writs") = some (.tup (namedD t)) := by unfold lookD; rw [ixDF_dctS, lk_writs]
/-- a thing without stand-writs -/
def NoSt (t : Th) : Prop := t.ws.length ≤ 100 ∧ ∀ w ∈ t.ws, ∃ s r, w = .tup (.str s :: r) ∧ s ≠ "stand"
theorem writs_none (ts : List Th) (k : Th → Int) (nd : (ts.map Th.n).Nodup) (hz : ts.length ≤ 60) (ns : ∀ t ∈ ts, NoSt t) (h : Hd) : mwrits_now [standD ts k] h = .ok (.dtt [] []) (h ++ [.gone]) := by
  obtain ⟨ρ', h', e1, a2, a3, a4, rfl, rfl⟩ := forGo_inv (chk := fun h => True) (g := DD.gSet 2)
    (b := mFor (mIterD (mIxD (mIxD (mFld "Stand" "shown" (mVar 0)) (mVar 2)) (mC (.str "writs")))) (gTupM 2 (gsCons (DD.gSet 3) (gsCons (DD.gSet 4) gsNil))) (mIfS (mCmp cEq (mIxD (mVar 4) (mC (.int 0))) (mC (.str "stand"))) (mDPut (mVar 1) (mVar 3) (mTup (aCons (mVar 2) (aCons (mC .non) (aCons (mIxD (mVar 4) (mC (.int 1))) (aCons (mIxD (mVar 4) (mC (.int 2))) aNil)))))) mNil))
    (fun ρ h' => ∃ a2 a3 a4 : Option D, ρ = [some (standD ts k), some (.ref h.length), a2, a3, a4] ∧ h' = h ++ [.dtt [] []])
    (fun _ _ _ => trivial) ((srtI (ts.map Th.n)).map .int) [some (standD ts k), some (.ref h.length), none, none, none] (h ++ [.dtt [] []])
    (fun d md ρ h' ⟨a2, a3, a4, er, eh⟩ => by
      subst er eh
      obtain ⟨n, mn, rfl⟩ := List.mem_map.mp md
      obtain ⟨t, mt, rfl⟩ := List.mem_map.mp (srtI_mem.mp mn)
      obtain ⟨ρ2, h2, e2, b2, b3, b4, rfl, rfl⟩ := forGo_inv (chk := fun h => True) (g := gTupM 2 (gsCons (DD.gSet 3) (gsCons (DD.gSet 4) gsNil)))
        (b := mIfS (mCmp cEq (mIxD (mVar 4) (mC (.int 0))) (mC (.str "stand"))) (mDPut (mVar 1) (mVar 3) (mTup (aCons (mVar 2) (aCons (mC .non) (aCons (mIxD (mVar 4) (mC (.int 1))) (aCons (mIxD (mVar 4) (mC (.int 2))) aNil)))))) mNil)
        (fun ρ h' => ∃ a2 a3 a4 : Option D, ρ = [some (standD ts k), some (.ref h.length), a2, a3, a4] ∧ h' = h ++ [.dtt [] []])
        (fun _ _ _ => trivial) (namedD t) [some (standD ts k), some (.ref h.length), some (.int t.n), a3, a4] (h ++ [.dtt [] []])
        (fun d md ρ h' ⟨a2, a3, a4, er, eh⟩ => by
          subst er eh
          obtain ⟨d', md', rfl⟩ := List.mem_map.mp md
          obtain ⟨i, x, rfl, mx⟩ := enum_at md'
          obtain ⟨s, r, rfl, ne⟩ := (ns t mt).2 x mx
          exact ⟨[some (standD ts k), some (.ref h.length), a2, some (.tup [.int t.mo, .int t.n, i]), some (.tup (.str s :: r))], [some (standD ts k), some (.ref h.length), a2, some (.tup [.int t.mo, .int t.n, i]), some (.tup (.str s :: r))], _, by simp [nameW], by simp [at0, ne], _, _, _, rfl, rfl⟩)
        ⟨_, _, _, rfl, rfl⟩
      refine ⟨[some (standD ts k), some (.ref h.length), some (.int t.n), a3, a4], _, _, by simp, ?_, b2, b3, b4, rfl, rfl⟩
      have v := val_T (f := fun t => lookD t (k t)) nd mt
      simp [standD, shownD] at e2 v
      simp [standD, shownD, shown_of, v, look_writs]
      exact e2)
    ⟨none, none, none, rfl, rfl⟩
  unfold mwrits_now bwrits_now
  simp [standD, shownD] at e1
  simp [standD, shownD, shown_of, srtG_T ts _ hz]
  simp [e1, frzD]
theorem lock_set {h z : Hd} {r : Nat} {x y : Cell} (e : h[r]? = some y) : (h.set r x ++ z)[r]? = some x ∧ (h.set r x ++ z).set r y = h ++ z := by
  have lt := (List.getElem?_eq_some_iff.mp e).1
  have ey := (List.getElem?_eq_some_iff.mp e).2
  refine ⟨?_, ?_⟩
  · rw [List.getElem?_append_left (by simpa using lt), List.getElem?_set_self lt]
  · rw [List.set_append_left _ _ (by simpa using lt), List.set_set, ← ey, List.set_getElem_self]
@[simp] theorem fz_dtt (ks us : List D) : (O.new (.dtt ks us)).fz = .dtt ks us := rfl
theorem hnd_nil : Hnd [] := by unfold Hnd; simp
theorem upd_nil {h : Hd} {r : Nat} (e : h[r]? = some (.dtt [] [])) : updGF (.ref r) [.dtt [] []] h = .ok (.val .non) h := by
  have s : h.set r (.dtt [] []) = h := by
    have lt := (List.getElem?_eq_some_iff.mp e).1
    have ey := (List.getElem?_eq_some_iff.mp e).2
    rw [← ey, List.set_getElem_self]
  have u : updF (.ref r) [.dtt [] []] h = .bad := rfl
  unfold updGF elseM
  rw [u]
  show updTF (.ref r) [.dtt [] []] h = _
  unfold updTF
  simp only [e]
  rw [if_pos ⟨by simp, .inr ⟨[], rfl, hnd_nil⟩⟩]
  simp only [mergeT, s]
theorem forGo_nil {chk : Hd → Prop} {g : MG} {b : MS} {ρ : DD.Env} {h : Hd} (c : chk h) : forGo chk g b [] ρ h = .nx ρ h := by unfold forGo; rw [if_pos c]
theorem standing_none (ts : List Th) (k : Th → Int) (nd : (ts.map Th.n).Nodup) (hz : ts.length ≤ 60) (ns : ∀ t ∈ ts, NoSt t) (h : Hd) (L : D) (rb : Nat) (hb : h[rb]? = some (.dtt [] [])) :
    ∃ e, mstanding [standD ts k, L, .lst [], .ref rb] h = .ok (.dtt [] []) (h ++ e) := by
  have lt := (List.getElem?_eq_some_iff.mp hb).1
  refine ⟨[.dtt [] [], .gone], ?_⟩
  -- the first statement
  have s1 : mLk 3 (mSet 4 (mOwn (mDc true [5, 6] (mItems (mVar 3)) (gTupM 2 (gsCons (DD.gSet 5) (gsCons (DD.gSet 6) gsNil))) tYesM (mVar 5) (mIxD (mVar 6) (mC (.int 0)))))) (startD 11 [standD ts k, L, .lst [], .ref rb]) h = .nx ((startD 11 [standD ts k, L, .lst [], .ref rb]).set 4 (some (.ref h.length))) (h ++ [.dtt [] []]) := by
    rw [mLk_ref (r := rb) (by simp [startD]) (lkH_t hb)]
    have it : itemsD (h.set rb (.lkt [] [])) (.ref rb) = some ⟨[], fun _ => True⟩ := by
      simp only [itemsD, List.getElem?_set_self lt]; rfl
    have b : mSet 4 (mOwn (mDc true [5, 6] (mItems (mVar 3)) (gTupM 2 (gsCons (DD.gSet 5) (gsCons (DD.gSet 6) gsNil))) tYesM (mVar 5) (mIxD (mVar 6) (mC (.int 0))))) (startD 11 [standD ts k, L, .lst [], .ref rb]) (h.set rb (.lkt [] [])) = .nx ((startD 11 [standD ts k, L, .lst [], .ref rb]).set 4 (some (.ref h.length))) (h.set rb (.lkt [] []) ++ [.dtt [] []]) := by
      simp [it, dcGo_nil]
    rw [b]
    obtain ⟨l1, l2⟩ := lock_set (z := [Cell.dtt [] []]) (x := .lkt [] []) hb
    rw [unlkF_nxT l1, l2]
  have r0 : (h ++ [Cell.dtt [] []] ++ [Cell.gone])[h.length]? = some (.dtt [] []) := by simp
  have wn := writs_none ts k nd hz ns (h ++ [.dtt [] []])
  -- the last statement
  have s4 : ∀ ρ : DD.Env, ρ[4]? = some (some (.ref h.length)) → mLk 4 (mRet (mFz (mDc true [5, 6] (mItems (mVar 4)) (gTupM 2 (gsCons (DD.gSet 5) (gsCons (DD.gSet 6) gsNil))) (mCmp cNe (mCalG 2 0 (fun ds _ => ds) mchanges_in (aCons (mIxD (mVar 6) (mC (.int 3))) (aCons (mVar 1) aNil)) aNil) (mFz (mLst aNil))) (mVar 5) (mVar 6)))) ρ (h ++ [.dtt [] [], .gone]) = .rt (.dtt [] []) (h ++ [.dtt [] [], .gone]) := fun ρ er => by
    have hb2 : (h ++ [Cell.dtt [] [], Cell.gone])[h.length]? = some (.dtt [] []) := cat0
    rw [mLk_ref (r := h.length) er (lkH_t hb2)]
    have it : itemsD (h ++ [Cell.lkt [] [], Cell.gone]) (.ref h.length) = some ⟨[], fun _ => True⟩ := by
      simp only [itemsD, cat0]; rfl
    have b : mRet (mFz (mDc true [5, 6] (mItems (mVar 4)) (gTupM 2 (gsCons (DD.gSet 5) (gsCons (DD.gSet 6) gsNil))) (mCmp cNe (mCalG 2 0 (fun ds _ => ds) mchanges_in (aCons (mIxD (mVar 6) (mC (.int 3))) (aCons (mVar 1) aNil)) aNil) (mFz (mLst aNil))) (mVar 5) (mVar 6))) ρ ((h ++ [Cell.dtt [] [], Cell.gone]).set h.length (.lkt [] [])) = .rt (.dtt [] []) ((h ++ [Cell.dtt [] [], Cell.gone]).set h.length (.lkt [] [])) := by
      simp [er, it, dcGo_nil]
    rw [b, unlkF_rtT (by rw [cset0]; exact cat0)]
    simp
  unfold mstanding bstanding
  simp only [runB_k, mSeq_k, s1, seqK_nx]
  simp [startD, isOwnD, wn, upd_nil, forGo_nil, s4]
theorem while_no {t : MT} {b : MS} {ρ : DD.Env} {h h1 : Hd} (q : t ρ h = .ok false h1) : mWhile t b ρ h = .nx ρ h1 := by
  have e : whileN t b 1 ρ h = .nx ρ h1 := by simp only [whileN, liftR, q]; rfl
  rw [mWhile_eq (n := 1) (by rw [e]; intro z; cases z), e]
/-- a course's cell -/
def courseC (st mo mk la be tl : D) : Cell := .ins "Course" ["stand", "moments", "marks", "lasts", "begun", "told_steps"] [st, mo, mk, la, be, tl]
section
variable {h : Hd} {rc : Nat} {st mo mk la be tl d : D} (e : h[rc]? = some (courseC st mo mk la be tl))
include e
theorem c_stand : ((insOf h "Course" (.ref rc)).bind fun p => lookL "stand" p.1 p.2) = some st := by simp [insOf, e, courseC, lookL]
theorem c_marks : ((insOf h "Course" (.ref rc)).bind fun p => lookL "marks" p.1 p.2) = some mk := by simp [insOf, e, courseC, lookL, ofS_inj]
theorem c_lasts : ((insOf h "Course" (.ref rc)).bind fun p => lookL "lasts" p.1 p.2) = some la := by simp [insOf, e, courseC, lookL, ofS_inj]
theorem c_begun : ((insOf h "Course" (.ref rc)).bind fun p => lookL "begun" p.1 p.2) = some be := by simp [insOf, e, courseC, lookL, ofS_inj]
theorem c_told : ((insOf h "Course" (.ref rc)).bind fun p => lookL "told_steps" p.1 p.2) = some tl := by simp [insOf, e, courseC, lookL, ofS_inj]
theorem c_is : (insOf h "Course" (.ref rc)).isSome = true := by simp [insOf, e, courseC]
theorem c_set : fldS "Course" "stand" (.ref rc) d h = some (h.set rc (courseC d mo mk la be tl)) := by simp [fldS, e, courseC, putN, putUs]
end
theorem left_none (ts : List Th) (k : Th → Int) (nd : (ts.map Th.n).Nodup) (hz : ts.length ≤ 60) (ns : ∀ t ∈ ts, NoSt t) (h : Hd) (L g : D) (rc rb : Nat) (mo mk tl : D) (hc : h[rc]? = some (courseC (standD ts k) mo mk (.lst []) (.ref rb) tl)) (hb : h[rb]? = some (.dtt [] [])) :
    ∃ e, mCourse_m_left_in [.ref rc, L, g] h = .ok (.lst []) (h ++ e) := by
  obtain ⟨e, q⟩ := standing_none ts k nd hz ns h L rb hb
  refine ⟨e, ?_⟩
  have l : lcGo (fun _ => True) (DD.gSet 3) (mCmp cNotInD (mVar 3) (mVar 2)) (mVar 3) [some (.ref rc), some L, some g, none] [] [] (h ++ e) = .ok [] (h ++ e) := by unfold lcGo; simp
  have s : srcOfD (h ++ e) (.dtt [] []) = some ⟨[], fun _ => True⟩ := rfl
  unfold mCourse_m_left_in bCourse_m_left_in
  simp [c_stand hc, c_lasts hc, c_begun hc, q, s, l]
theorem count_ok (ts : List Th) (nd : (ts.map Th.n).Nodup) (hz : ts.length ≤ 60) (h : Hd) (rc rm : Nat) (mo la be tl : D) (hc : h[rc]? = some (courseC (standD ts fun _ => 0) mo (.ref rm) la be tl)) (hm : h[rm]? = some (.dct (keysT ts) (ts.map fun t => .int t.mrk))) :
    ∃ e, mCourse_m_count_marks [.ref rc] h = .ok .non (h.set rc (courseC (standD ts Th.mrk) mo (.ref rm) la be tl) ++ e) := by
  obtain ⟨e, q⟩ := marked_ok ts nd hz h rm hm
  refine ⟨e, ?_⟩
  have lt := (List.getElem?_eq_some_iff.mp hc).1
  unfold mCourse_m_count_marks bCourse_m_count_marks
  simp [c_stand hc, c_marks hc, q, c_set (at_app hc)]
  rw [List.set_append_left _ _ lt]
theorem ne_nil {h : Hd} : cNe (.lst []) (.lst []) h = .ok false h := rfl
/-- a layer in which nothing stands -/
theorem go_none (ts : List Th) (nd : (ts.map Th.n).Nodup) (hz : ts.length ≤ 60) (ns : ∀ t ∈ ts, NoSt t) (k : Th → Int) (h : Hd) (L : Int) (hL : L ≠ 8) (rs : D) (rc rb : Nat) (mo mk tl : D) (hc : h[rc]? = some (courseC (standD ts k) mo mk (.lst []) (.ref rb) tl)) (hb : h[rb]? = some (.dtt [] [])) :
    ∃ e, mSheet_m_go_through [rs, .ref rc, .int L] h = .ok .non (h ++ e) := by
  obtain ⟨e, q⟩ := left_none ts k nd hz ns (h ++ [.lst []]) (.int L) (.ref h.length) rc rb mo mk tl (at_app hc) (at_app hb)
  refine ⟨.lst [] :: e, ?_⟩
  have w : ∀ b, mWhile (mCmp cNe (mMthG "Course" 2 0 (fun ds _ => ds) mCourse_m_left_in (mVar 1) (aCons (mVar 2) (aCons (mVar 3) aNil)) aNil) (mFz (mLst aNil))) b [some rs, some (.ref rc), some (.int L), some (.ref h.length), none] (h ++ [.lst []]) = .nx [some rs, some (.ref rc), some (.int L), some (.ref h.length), none] (h ++ [.lst []] ++ e) := fun b => while_no (by
    simp [c_is (at_app hc), q, ne_nil])
  unfold mSheet_m_go_through bSheet_m_go_through
  simp [hL]
  simp at w
  simp [w]
/-- the layer in which marks count -/
theorem go_marks (ts : List Th) (nd : (ts.map Th.n).Nodup) (hz : ts.length ≤ 60) (ns : ∀ t ∈ ts, NoSt t) (h : Hd) (rs : D) (rc rb rm : Nat) (mo tl : D) (hc : h[rc]? = some (courseC (standD ts fun _ => 0) mo (.ref rm) (.lst []) (.ref rb) tl)) (hb : h[rb]? = some (.dtt [] [])) (hm : h[rm]? = some (.dct (keysT ts) (ts.map fun t => .int t.mrk))) (nb : rc ≠ rb) :
    ∃ e, mSheet_m_go_through [rs, .ref rc, .int 8] h = .ok .non (h.set rc (courseC (standD ts Th.mrk) mo (.ref rm) (.lst []) (.ref rb) tl) ++ e) := by
  obtain ⟨e1, q1⟩ := count_ok ts nd hz h rc rm mo (.lst []) (.ref rb) tl hc hm
  have lt := (List.getElem?_eq_some_iff.mp hc).1
  generalize hg : h.set rc (courseC (standD ts Th.mrk) mo (.ref rm) (.lst []) (.ref rb) tl) = g at q1
  have gl : g.length = h.length := by rw [← hg]; simp
  have gc : g[rc]? = some (courseC (standD ts Th.mrk) mo (.ref rm) (.lst []) (.ref rb) tl) := by rw [← hg, List.getElem?_set_self lt]
  have gb : g[rb]? = some (.dtt [] []) := by rw [← hg, List.getElem?_set_ne nb]; exact hb
  obtain ⟨e, q⟩ := left_none ts Th.mrk nd hz ns (g ++ e1 ++ [.lst []]) (.int 8) (.ref (g ++ e1).length) rc rb mo (.ref rm) tl (at_app (at_app gc)) (at_app (at_app gb))
  refine ⟨e1 ++ .lst [] :: e, ?_⟩
  have w : ∀ b, mWhile (mCmp cNe (mMthG "Course" 2 0 (fun ds _ => ds) mCourse_m_left_in (mVar 1) (aCons (mVar 2) (aCons (mVar 3) aNil)) aNil) (mFz (mLst aNil))) b [some rs, some (.ref rc), some (.int 8), some (.ref (g ++ e1).length), none] (g ++ e1 ++ [.lst []]) = .nx [some rs, some (.ref rc), some (.int 8), some (.ref (g ++ e1).length), none] (g ++ e1 ++ [.lst []] ++ e) := fun b => while_no (by
    have ci := c_is (at_app (z := [Cell.lst []]) (at_app (z := e1) gc))
    simp only [List.length_append] at q
    simp [List.append_assoc] at q ci
    simp [ci, q, ne_nil])
  unfold mSheet_m_go_through bSheet_m_go_through
  simp [c_is hc, q1]
  simp at w
  simp [w]
theorem dc_stmt {ts : List Th} (nd : (ts.map Th.n).Nodup) (hz : ts.length ≤ 60) {i rT : Nat} {vs : List Nat} {g : MG} {ek ev : ME} {ρ : DD.Env} {h : Hd} (f : Th → D) (e0 : ρ[0]? = some (some (.ref rT))) (hT : h[rT]? = some (.dct (keysT ts) (ts.map thD)))
    (st : ∀ t ∈ ts, ∀ h', ∃ ρ1, g (.tup [.int t.n, thD t]) (wipeD ρ vs) h' = .ok ρ1 h' ∧ ek ρ1 h' = .ok (.int t.n) h' ∧ ev ρ1 h' = .ok (f t) h') :
    mLk 0 (mSet i (mOwn (mDc false vs (mItems (mVar 0)) g tYesM ek ev))) ρ h = .nx (ρ.set i (some (.ref h.length))) (h ++ [.dct (keysT ts) (ts.map f)]) := by
  have lt := (List.getElem?_eq_some_iff.mp hT).1
  rw [mLk_ref e0 (lkH_d hT)]
  have it : itemsD (h.set rT (.lkd (keysT ts) (ts.map thD))) (.ref rT) = some ⟨ts.map fun t => .tup [.int t.n, thD t], fun _ => True⟩ := by
    simp only [itemsD, List.getElem?_set_self lt, pairs_T]
  have dc := dcGo_map (h := h.set rT (.lkd (keysT ts) (ts.map thD))) (ρ := wipeD ρ vs) (kf := keyD) (chk := fun _ => True) (g := g) (t := tYesM) (ek := ek) (ev := ev) (fun t : Th => D.tup [.int t.n, thD t]) (fun t => .int t.n) f trivial ts [] [] (fun t m => by
    obtain ⟨ρ1, a, b, c⟩ := st t m (h.set rT (.lkd (keysT ts) (ts.map thD)))
    exact ⟨ρ1, a, rfl, b, c⟩) (fun t _ => rfl) (by
      simp only [List.map_nil, List.nil_append, keyD]
      rw [show (ts.map fun x => (some (Sum.inl x.n) : Option Key)) = (ts.map Th.n).map (fun n => some (Sum.inl n)) by simp [Function.comp_def]]
      exact List.Pairwise.map _ (fun a b z e => z (by simpa using e)) nd) (by simp; omega) rfl
  have b : mSet i (mOwn (mDc false vs (mItems (mVar 0)) g tYesM ek ev)) ρ (h.set rT (.lkd (keysT ts) (ts.map thD))) = .nx (ρ.set i (some (.ref h.length))) (h.set rT (.lkd (keysT ts) (ts.map thD)) ++ [.dct (keysT ts) (ts.map f)]) := by
    have kf : kput false = kputG keyD := rfl
    rw [List.nil_append, List.nil_append, show (ts.map fun t => D.int t.n) = keysT ts from rfl] at dc
    simp [e0, it, kf, dc]
  rw [b]
  obtain ⟨l1, l2⟩ := lock_set (z := [Cell.dct (keysT ts) (ts.map f)]) (x := .lkd (keysT ts) (ts.map thD)) hT
  rw [unlkF_nx l1, l2]
theorem list_ltp {h : Hd} : listDF [.lst []] h = .ok (.new (.lst [])) h := rfl
theorem course_init (h : Hd) (st mo mk la : D) : mCourse_m___init__ [.ref h.length, st, mo, mk, la] (h ++ [.ins "Course" [] []]) = .ok .non (h ++ [courseC st mo mk la (.ref (h.length + 1)) (.ref (h.length + 2)), .dtt [] [], .lst []]) := by
  unfold mCourse_m___init__ bCourse_m___init__ courseC
  simp [fldS, putN, putUs, ofS_inj]
theorem begun_ok (ts : List Th) (nd : (ts.map Th.n).Nodup) (hz : ts.length ≤ 60) (ns : ∀ t ∈ ts, NoSt t) (h : Hd) (rT : Nat) (hT : h[rT]? = some (.dct (keysT ts) (ts.map thD))) :
    mbegun_course [.ref rT, .lst []] h = .ok (.ref (h.length + 4)) (h ++ [.gone, .dct (keysT ts) (ts.map fun t => .int t.mo), .dct (keysT ts) (ts.map fun t => .int t.mrk), .gone, courseC (standD ts fun _ => 0) (.ref (h.length + 1)) (.ref (h.length + 2)) (.lst []) (.ref (h.length + 5)) (.ref (h.length + 6)), .dtt [] [], .lst []]) := by
  have s1 := dc_stmt (i := 2) (rT := rT) (vs := [3, 4, 5, 6, 7]) (g := gTupM 2 (gsCons (DD.gSet 3) (gsCons (gTupM 4 (gsCons (DD.gSet 4) (gsCons (DD.gSet 5) (gsCons (DD.gSet 6) (gsCons (DD.gSet 7) gsNil))))) gsNil))) (ek := mVar 3) (ev := mCalG 4 0 (fun ds _ => ds) mfirst_look (aCons (mVar 3) (aCons (mVar 4) (aCons (mVar 5) (aCons (mVar 6) aNil)))) aNil)
    (ρ := [some (.ref rT), some (.lst []), none, none, none, none, none, none, none, none]) nd hz (fun t => lookD t 0) rfl hT (fun t m h' => ⟨[some (.ref rT), some (.lst []), none, some (.int t.n), some (.int t.hd), some (.int t.mo), some (cardD t), some (.int t.mrk), none, none], by simp [wipeD, thD], by simp, by simp [first_ok t (ns t m).1]⟩)
  have s2 := dc_stmt (i := 8) (rT := rT) (vs := [3, 4, 5, 6, 7]) (g := gTupM 2 (gsCons (DD.gSet 3) (gsCons (gTupM 4 (gsCons (DD.gSet 4) (gsCons (DD.gSet 5) (gsCons (DD.gSet 6) (gsCons (DD.gSet 7) gsNil))))) gsNil))) (ek := mVar 3) (ev := mVar 5)
    (ρ := [some (.ref rT), some (.lst []), some (.ref h.length), none, none, none, none, none, none, none]) (h := h ++ [.dct (keysT ts) (ts.map fun t => lookD t 0)]) nd hz (fun t => .int t.mo) rfl (at_app hT) (fun t m h' => ⟨[some (.ref rT), some (.lst []), some (.ref h.length), some (.int t.n), some (.int t.hd), some (.int t.mo), some (cardD t), some (.int t.mrk), none, none], by simp [wipeD, thD], by simp, by simp⟩)
  have s3 := dc_stmt (i := 7) (rT := rT) (vs := [3, 4, 5, 6, 9]) (g := gTupM 2 (gsCons (DD.gSet 3) (gsCons (gTupM 4 (gsCons (DD.gSet 4) (gsCons (DD.gSet 5) (gsCons (DD.gSet 6) (gsCons (DD.gSet 9) gsNil))))) gsNil))) (ek := mVar 3) (ev := mVar 9)
    (ρ := [some (.ref rT), some (.lst []), some (.ref h.length), none, none, none, none, none, some (.ref (h.length + 1)), none]) (h := h ++ [.dct (keysT ts) (ts.map fun t => lookD t 0)] ++ [.dct (keysT ts) (ts.map fun t => .int t.mo)]) nd hz (fun t => .int t.mrk) rfl (at_app (at_app hT)) (fun t m h' => ⟨[some (.ref rT), some (.lst []), some (.ref h.length), some (.int t.n), some (.int t.hd), some (.int t.mo), some (cardD t), none, some (.ref (h.length + 1)), some (.int t.mrk)], by simp [wipeD, thD], by simp, by simp⟩)
  simp only [List.length_append, List.length_cons, List.length_nil, List.append_assoc, List.cons_append, List.nil_append] at s2 s3
  have si := stand_init (h ++ [.gone, .dct (keysT ts) (ts.map fun t => .int t.mo), .dct (keysT ts) (ts.map fun t => .int t.mrk)]) (shownD ts fun _ => 0) (.int 10)
  have ci := course_init (h ++ [.gone, .dct (keysT ts) (ts.map fun t => .int t.mo), .dct (keysT ts) (ts.map fun t => .int t.mrk), .gone]) (standD ts fun _ => 0) (.ref (h.length + 1)) (.ref (h.length + 2)) (.lst [])
  have e0 : startD 10 [.ref rT, .lst []] = [some (.ref rT), some (.lst []), none, none, none, none, none, none, none, none] := rfl
  unfold mbegun_course bbegun_course
  simp only [runB_k, mSeq_k, e0, s1, seqK_nx, List.set_cons_succ, List.set_cons_zero, s2, s3]
  simp [standD, shownD] at si ci
  simp [frzD, standD, shownD, si, ci, list_ltp]
theorem cat_at {h b : Hd} (i : Nat) : (h ++ b)[h.length + i]? = b[i]? := by
  rw [List.getElem?_append_right (by omega)]; congr 1; omega
theorem cset_at {h b : Hd} (i : Nat) (c : Cell) : (h ++ b).set (h.length + i) c = h ++ b.set i c := by
  rw [List.set_append_right _ _ (by omega)]; congr 2; omega
/-- the cells of a sheet in the making: n its place -/
def blk (ts : List Th) (n : Nat) (sh : Cell) (k : Th → Int) (sts : List D) : Hd :=
  [sh, .gone, .dct (keysT ts) (ts.map fun t => .int t.mo), .dct (keysT ts) (ts.map fun t => .int t.mrk), .gone, courseC (standD ts k) (.ref (n + 2)) (.ref (n + 3)) (.lst []) (.ref (n + 6)) (.ref (n + 7)), .dtt [] [], .lst [], .lst sts, .lst []]
def shC2 (n : Nat) : Cell := .ins "Sheet" ["stands", "waits_told"] [.ref (n + 8), .ref (n + 9)]
def shC3 (n : Nat) : Cell := .ins "Sheet" ["stands", "waits_told", "steps_done"] [.ref (n + 8), .ref (n + 9), .ref (n + 7)]
section
variable {ts : List Th} {h e : Hd} {k : Th → Int}
theorem b_course {sh : Cell} {sts : List D} : (h ++ (blk ts h.length sh k sts ++ e))[h.length + 5]? = some (courseC (standD ts k) (.ref (h.length + 2)) (.ref (h.length + 3)) (.lst []) (.ref (h.length + 6)) (.ref (h.length + 7))) := by rw [cat_at]; rfl
theorem b_begun {sh : Cell} {sts : List D} : (h ++ (blk ts h.length sh k sts ++ e))[h.length + 6]? = some (.dtt [] []) := by rw [cat_at]; rfl
theorem b_marks {sh : Cell} {sts : List D} : (h ++ (blk ts h.length sh k sts ++ e))[h.length + 3]? = some (.dct (keysT ts) (ts.map fun t => .int t.mrk)) := by rw [cat_at]; rfl
theorem b_stands {sh : Cell} {sts : List D} : (h ++ (blk ts h.length sh k sts ++ e))[h.length + 8]? = some (.lst sts) := by rw [cat_at]; rfl
theorem b_sheet {sh : Cell} {sts : List D} : (h ++ (blk ts h.length sh k sts ++ e))[h.length]? = some sh := by have := cat_at (h := h) (b := blk ts h.length sh k sts ++ e) 0; rw [Nat.add_zero] at this; rw [this]; rfl
theorem b_count {sh : Cell} {sts : List D} {k' : Th → Int} : (h ++ (blk ts h.length sh k sts ++ e)).set (h.length + 5) (courseC (standD ts k') (.ref (h.length + 2)) (.ref (h.length + 3)) (.lst []) (.ref (h.length + 6)) (.ref (h.length + 7))) = h ++ (blk ts h.length sh k' sts ++ e) := by rw [cset_at]; rfl
theorem b_app {sh : Cell} {sts sts' : List D} : (h ++ (blk ts h.length sh k sts ++ e)).set (h.length + 8) (.lst sts') = h ++ (blk ts h.length sh k sts' ++ e) := by rw [cset_at]; rfl
end
theorem layers_ok (ts : List Th) (nd : (ts.map Th.n).Nodup) (hz : ts.length ≤ 60) (ns : ∀ t ∈ ts, NoSt t) (h : Hd) (x1 x2 : Option D) :
    ∃ (x4 : Option D) (e : Hd), forGo (fun _ => True) (DD.gSet 4) (mExpr (mMthG "Sheet" 2 0 (fun ds _ => ds) mSheet_m_go_through (mVar 0) (aCons (mVar 3) (aCons (mVar 4) aNil)) aNil)) ([1, 2, 3, 4, 5, 6, 7, 8, 9].map D.int) [some (.ref h.length), x1, x2, some (.ref (h.length + 5)), none] (h ++ blk ts h.length (shC2 h.length) (fun _ => 0) []) =
      .nx [some (.ref h.length), x1, x2, some (.ref (h.length + 5)), x4] (h ++ (blk ts h.length (shC2 h.length) Th.mrk [] ++ e)) := by
  obtain ⟨ρ', h', e1, x4, e, rfl, rfl⟩ := forGo_acc (chk := fun _ => True) (g := DD.gSet 4) (b := mExpr (mMthG "Sheet" 2 0 (fun ds _ => ds) mSheet_m_go_through (mVar 0) (aCons (mVar 3) (aCons (mVar 4) aNil)) aNil)) D.int
    (fun done ρ h' => ∃ (x4 : Option D) (e : Hd), ρ = [some (.ref h.length), x1, x2, some (.ref (h.length + 5)), x4] ∧ h' = h ++ (blk ts h.length (shC2 h.length) (if 8 ∈ done then Th.mrk else fun _ => 0) [] ++ e))
    (fun _ _ _ _ => trivial) [1, 2, 3, 4, 5, 6, 7, 8, 9] (fun done x rest ρ h' ee ⟨x4, e, er, eh⟩ => by
      subst er eh
      have isS : ∀ {z : Hd} {k : Th → Int}, (insOf (h ++ (blk ts h.length (shC2 h.length) k [] ++ z)) "Sheet" (.ref h.length)).isSome = true := fun {z k} => by simp only [insOf, b_sheet, shC2]; rfl
      by_cases h8 : x = 8
      · subst h8
        have no : (8 : Int) ∉ done := fun m => by
          have nd9 : ([1, 2, 3, 4, 5, 6, 7, 8, 9] : List Int).Nodup := by decide
          rw [ee, List.nodup_append] at nd9
          exact nd9.2.2 _ m _ (by simp) rfl
        rw [if_neg no]
        obtain ⟨e2, q⟩ := go_marks ts nd hz ns (h ++ (blk ts h.length (shC2 h.length) (fun _ => 0) [] ++ e)) (.ref h.length) (h.length + 5) (h.length + 6) (h.length + 3) (.ref (h.length + 2)) (.ref (h.length + 7)) b_course b_begun b_marks (by omega)
        rw [b_count] at q
        refine ⟨[some (.ref h.length), x1, x2, some (.ref (h.length + 5)), some (.int 8)], [some (.ref h.length), x1, x2, some (.ref (h.length + 5)), some (.int 8)], _, by simp, by simp [isS, q]; rfl, some (.int 8), e ++ e2, rfl, by simp [List.append_assoc]⟩
      · obtain ⟨e2, q⟩ := go_none ts nd hz ns (if 8 ∈ done then Th.mrk else fun _ => 0) (h ++ (blk ts h.length (shC2 h.length) (if 8 ∈ done then Th.mrk else fun _ => 0) [] ++ e)) x h8 (.ref h.length) (h.length + 5) (h.length + 6) (.ref (h.length + 2)) (.ref (h.length + 3)) (.ref (h.length + 7)) b_course b_begun
        refine ⟨[some (.ref h.length), x1, x2, some (.ref (h.length + 5)), some (.int x)], [some (.ref h.length), x1, x2, some (.ref (h.length + 5)), some (.int x)], _, by simp, by simp [isS, q]; rfl, some (.int x), e ++ e2, rfl, ?_⟩
        simp [List.append_assoc, Ne.symm h8])
    [1, 2, 3, 4, 5, 6, 7, 8, 9] [] [some (.ref h.length), x1, x2, some (.ref (h.length + 5)), none] (h ++ blk ts h.length (shC2 h.length) (fun _ => 0) []) rfl ⟨none, [], rfl, by simp⟩
  exact ⟨x4, e, by simpa using e1⟩
theorem sheet_init (ts : List Th) (nd : (ts.map Th.n).Nodup) (hz : ts.length ≤ 60) (ns : ∀ t ∈ ts, NoSt t) (h : Hd) (rT : Nat) (hT : h[rT]? = some (.dct (keysT ts) (ts.map thD))) :
    ∃ e, mSheet_m___init__ [.ref h.length, .ref rT, .lst []] (h ++ [.ins "Sheet" [] []]) = .ok .non (h ++ (blk ts h.length (shC3 h.length) Th.mrk [standD ts Th.mrk] ++ e)) := by
  have b := begun_ok ts nd hz ns (h ++ [.ins "Sheet" [] []]) rT (at_app hT)
  simp only [List.length_append, List.length_cons, List.length_nil, List.append_assoc, List.cons_append, List.nil_append, Nat.zero_add, Nat.add_assoc] at b
  simp only [Nat.reduceAdd] at b
  obtain ⟨x4, e, l⟩ := layers_ok ts nd hz ns h (some (.ref rT)) (some (.lst []))
  refine ⟨e, ?_⟩
  unfold mSheet_m___init__ bSheet_m___init__
  simp [b, fldS, putN, putUs, ofS_inj]
  have r : range2F [.int 1, .int 10] = some ⟨[1, 2, 3, 4, 5, 6, 7, 8, 9].map D.int, fun _ => True⟩ := rfl
  rw [r]
  simp only [optR_some, forK_ok]
  have l2 := congrArg (fun f => runK (seqK (mSeq (mExpr (mFz (mMeth isOwnL appF (mFld "Sheet" "stands" (mVar 0)) (aCons (mFld "Course" "stand" (mVar 3)) aNil)))) (mFldS "Sheet" "steps_done" (mVar 0) (mFld "Course" "told_steps" (mVar 3)))) f)) l
  refine Eq.trans (show _ = _ from l2) ?_
  have g1 : ((insOf (h ++ (blk ts h.length (shC2 h.length) Th.mrk [] ++ e)) "Sheet" (.ref h.length)).bind fun p => lookL "stands" p.1 p.2) = some (.ref (h.length + 8)) := by
    simp only [insOf, b_sheet, shC2]; simp [lookL]
  have a1 : appF (.ref (h.length + 8)) [standD ts Th.mrk] (h ++ (blk ts h.length (shC2 h.length) Th.mrk [] ++ e)) = .ok (.val .non) (h ++ (blk ts h.length (shC2 h.length) Th.mrk [standD ts Th.mrk] ++ e)) := by
    simp only [appF, b_stands]
    rw [if_pos (by simp [sizeLine_eq]), b_app]; rfl
  have o1 : isOwnL (h ++ (blk ts h.length (shC2 h.length) Th.mrk [] ++ e)) (.ref (h.length + 8)) = true := by simp only [isOwnL, b_stands]
  have f1 : fldS "Sheet" "steps_done" (.ref h.length) (.ref (h.length + 7)) (h ++ (blk ts h.length (shC2 h.length) Th.mrk [standD ts Th.mrk] ++ e)) = some (h ++ (blk ts h.length (shC3 h.length) Th.mrk [standD ts Th.mrk] ++ e)) := by
    simp only [fldS, b_sheet, shC2]
    simp [putN, putUs, ofS_inj, shC3]
    rfl
  simp [g1, o1, c_stand b_course, a1, c_told b_course, f1]
theorem same_refl {n : Nat} (hn : n ≤ 90000) : ∀ (k : Nat) (d : D) (m : Nat) (h : Hd), pd n k d → k < m → r_law_same m [d, d] h = .ok (.bl true) h := by
  have scal : ∀ (d : D) (m : Nat) (h : Hd), pd n 0 d → r_law_same (m + 1) [d, d] h = .ok (.bl true) h := fun d m h p => by
    show runB 5 (b_law_same (r_law_same m)) _ _ = _
    unfold b_law_same
    cases d with
    | non =>
      have e : cEq .non .non h = .ok true h := rfl
      simp [isiF, tyName, tyKnown, isT, tysOf, DD.isNon, e]
    | bl b => simp [isiF, tyName, tyKnown, isT, tysOf, DD.isNon]
    | int i => simp [isiF, tyName, tyKnown, isT, tysOf, DD.isNon]
    | str s => simp [isiF, tyName, tyKnown, isT, tysOf, DD.isNon]
    | _ => simp [pd] at p
  have seqs : ∀ (k : Nat) (xs : List D) (m : Nat) (h : Hd) (f d : D), xs.length ≤ 90000 → (∀ x ∈ xs, ∀ h, r_law_same m [x, x] h = .ok (.bl true) h) →
      lcGo (fun _ => True) (gTupM 2 (gsCons (gSet 3) (gsCons (gSet 4) gsNil))) tYesM (mCalG 2 0 (fun ds _ => ds) (r_law_same m) (aCons (mVar 3) (aCons (mVar 4) aNil)) aNil) [some f, some d, none, none, none] (zipD xs xs) [] h = .ok (xs.map fun _ => .bl true) h := fun k xs m h f d hl hx => by
    have ez : zipD xs xs = xs.map fun x => .tup [x, x] := by
      unfold zipD
      clear hl hx
      induction xs with
      | nil => rfl
      | cons x xs ih => rw [List.zip_cons_cons, List.map_cons, List.map_cons, ih]
    rw [ez, lcGo_pure (fun _ => .bl true) trivial]
    · rw [List.map_map]; rfl
    · intro d md
      obtain ⟨x, hx', rfl⟩ := List.mem_map.mp md
      exact ⟨_, rfl, rfl, by simp [hx x hx' h]⟩
    · simpa using sz_big (by omega)
  have all1 : ∀ (xs : List D) (h : Hd), allF [.lst (xs.map fun _ => D.bl true)] h = .ok (.val (.bl true)) h := fun xs h => by
    rw [allF_map (fun _ => true) xs]; simp
  intro k
  induction k with
  | zero =>
    intro d m h p hm
    obtain ⟨m, rfl⟩ : ∃ j, m = j + 1 := ⟨m - 1, by omega⟩
    exact scal d m h p
  | succ k ih =>
    intro d m h p hm
    obtain ⟨m, rfl⟩ : ∃ j, m = j + 1 := ⟨m - 1, by omega⟩
    cases d with
    | tup xs =>
      obtain ⟨lx, px⟩ := (pd_tup xs).mp p
      have e := seqs k xs m h (.tup xs) (.tup xs) (by omega) (fun x mx h => ih x m h (px x mx) (by omega))
      show runB 5 (b_law_same (r_law_same m)) _ _ = _
      unfold b_law_same
      simp [isiF, tyName, tyKnown, isT, tysOf, e, all1]
    | lst xs =>
      obtain ⟨lx, px⟩ := (pd_lst xs).mp p
      have e := seqs k xs m h (.lst xs) (.lst xs) (by omega) (fun x mx h => ih x m h (px x mx) (by omega))
      show runB 5 (b_law_same (r_law_same m)) _ _ = _
      unfold b_law_same
      simp [isiF, tyName, tyKnown, isT, tysOf, e, all1]
    | non => exact scal _ m h (by simp)
    | bl b => exact scal _ m h (by simp)
    | int i => exact scal _ m h (by simp)
    | str s => exact scal _ m h (by simpa using p)
    | _ => simp [pd] at p
def nwK : List D := [.str "hands", .str "round", .str "clock", .str "things", .str "lasting"]
def nw0 (c : Int) : D := .dct nwK [.int c, .int 1, .int 0, .dct [] [], .lst []]
def tabC (a b c d e : D) : Cell := .ins "Table" ["now", "past", "later", "kept", "at_work"] [a, b, c, d, e]
def tab0 (c : Int) (r : Nat) (k : D) : Cell := tabC (nw0 c) (.ref (r + 1)) (.ref (r + 2)) k (.bl false)
theorem num_ok {i lo hi : Int} (h1 : lo ≤ i) (h2 : i ≤ hi) (h : Hd) : mis_number [.int i, .int lo, .int hi] h = .ok (.bl true) h := by
  unfold mis_number bis_number
  simp [isiF, tyName, tyKnown, isT, h1, h2]
theorem num_no {i lo hi : Int} (h1 : i < lo ∨ hi < i) (h : Hd) : mis_number [.int i, .int lo, .int hi] h = .ok (.bl false) h := by
  unfold mis_number bis_number
  rcases h1 with h1 | h1
  · simp [isiF, tyName, tyKnown, isT, show ¬ lo ≤ i by omega]
  · simp [isiF, tyName, tyKnown, isT, show ¬ i ≤ hi by omega]
theorem table_init {c : Int} (h1 : 2 ≤ c) (h2 : c ≤ 4) (h : Hd) : mTable_m___init__ [.ref h.length, .int c] (h ++ [.ins "Table" [] []]) = .ok .non (h ++ [tab0 c h.length .non, .lst [], .lst []]) := by
  have n := num_ok h1 h2 (h ++ [.ins "Table" [] []])
  have d : ∀ h, dispF [(D.str "hands", .int c), (.str "round", .int 1), (.str "clock", .int 0), (.str "things", .dct [] []), (.str "lasting", .lst [])] h = .ok (.new (.dct nwK [.int c, .int 1, .int 0, .dct [] [], .lst []])) h := fun h =>
    dispOf (kk := [.inr "hands", .inr "round", .inr "clock", .inr "things", .inr "lasting"]) rfl (by simp [ofS_inj]) (by simp)
  have e : D.dct nwK [.int c, .int 1, .int 0, .dct [] [], .lst []] = nw0 c := rfl
  unfold mTable_m___init__ bTable_m___init__ tab0 tabC
  simp [n, d, e, fldS, putN, putUs, ofS_inj]
section
variable {h : Hd} {r : Nat} {c : Int} {k : D}
theorem ix_hands : ixDF h (nw0 c) (.str "hands") = some (.int c) := by simp [nw0, nwK, valG, keyD]
theorem ix_round : ixDF h (nw0 c) (.str "round") = some (.int 1) := by simp [nw0, nwK, valG, keyD, ofS_inj]
theorem ix_things : ixDF h (nw0 c) (.str "things") = some (.dct [] []) := by simp [nw0, nwK, valG, keyD, ofS_inj]
theorem ix_lasting : ixDF h (nw0 c) (.str "lasting") = some (.lst []) := by simp [nw0, nwK, valG, keyD, ofS_inj]
theorem srt0 : srtGF [.dct [] []] h = .ok (.new (.lst [])) h := by
  have := srtG_dct (h := h) [] [] (by decide) rfl
  have e : srtI [] = [] := List.eq_nil_of_length_eq_zero (by simp [srtI])
  rw [e] at this
  exact this
variable (q : h[r]? = some (tab0 c r k))
include q
theorem t_now : ((insOf h "Table" (.ref r)).bind fun p => lookL "now" p.1 p.2) = some (nw0 c) := by simp [insOf, q, tab0, tabC, lookL]
theorem t_past : ((insOf h "Table" (.ref r)).bind fun p => lookL "past" p.1 p.2) = some (.ref (r + 1)) := by simp [insOf, q, tab0, tabC, lookL, ofS_inj]
theorem t_later : ((insOf h "Table" (.ref r)).bind fun p => lookL "later" p.1 p.2) = some (.ref (r + 2)) := by simp [insOf, q, tab0, tabC, lookL, ofS_inj]
theorem t_kept : ((insOf h "Table" (.ref r)).bind fun p => lookL "kept" p.1 p.2) = some k := by simp [insOf, q, tab0, tabC, lookL, ofS_inj]
theorem t_work : ((insOf h "Table" (.ref r)).bind fun p => lookL "at_work" p.1 p.2) = some (.bl false) := by simp [insOf, q, tab0, tabC, lookL, ofS_inj]
theorem t_is : (insOf h "Table" (.ref r)).isSome = true := by simp [insOf, q, tab0, tabC]
theorem ts_kept {x : D} : fldS "Table" "kept" (.ref r) x h = some (h.set r (tab0 c r x)) := by simp [fldS, q, tab0, tabC, putN, putUs, ofS_inj]
end
/-- a table as it is begun, at r -/
structure TabN (h : Hd) (r : Nat) (c : Int) (k : D) : Prop where
  t : h[r]? = some (tab0 c r k)
  p : h[r + 1]? = some (.lst [])
  l : h[r + 2]? = some (.lst [])
theorem lcGo0 {g : MG} {t : MT} {e : ME} {ρ : DD.Env} {acc : List D} {h : Hd} : lcGo (fun _ => True) g t e ρ [] acc h = .ok acc h := by unfold lcGo; rw [if_pos trivial]
theorem places {h : Hd} {pl : String} (hp : pl = "board" ∨ pl = "heap" ∨ pl = "aside") : cNotInD (.str pl) k_PLACES h = .ok false h := by
  unfold k_PLACES
  have n : ∀ (x : D) (ys : List D), flatD x = true → ys.all flatD = true → cNotInX x (.ktp ys) h = .ok (!inFlat x ys) h := fun x ys hx hy => by
    have e : inF h x (.ktp ys) = some (inFlat x ys) := by
      have s : inSeq h x (.ktp ys) = some (inFlat x ys) := by
        unfold inSeq
        rw [show seqOf h (.ktp ys) = some ys from rfl]
        simp only [Option.bind_some]
        rw [if_pos (by rw [hx, hy]; rfl)]
      cases x <;> first | exact s | cases hx
    unfold cNotInX
    rw [e]
  rw [cNotInD_ktp, n _ _ rfl rfl]
  rcases hp with rfl | rfl | rfl <;> simp [inFlat, eqFlat, ofS_inj]
section
variable {h : Hd} {r : Nat} {c : Int} {k : D} (q : TabN h r c k)
include q
theorem things0 {pl : String} (hp : pl = "board" ∨ pl = "heap" ∨ pl = "aside") : mTable_m_things [.ref r, .str pl] h = .ok (.lst []) h := by
  have kp := places (h := h) hp
  unfold mTable_m_things bTable_m_things
  simp [kp, t_now q.t, ix_things, srt0, lcGo0]
theorem there0 : mthere [nw0 c] h = .ok (.lst []) h := by
  unfold mthere bthere
  simp [ix_things, srt0, lcGo0]
theorem len0 : mTable_m___len__ [.ref r] h = .ok (.int 0) h := by
  unfold mTable_m___len__ bTable_m___len__
  simp [t_now q.t, there0 q]
theorem lasting0 : mTable_m_lasting [.ref r] h = .ok (.lst []) h := by
  have ls : listDF [.lst []] h = .ok (.new (.lst [])) h := rfl
  unfold mTable_m_lasting bTable_m_lasting
  simp [t_now q.t, ix_lasting, ls]
theorem rounds0 : mTable_m_rounds [.ref r] h = .ok (.int 1) h := by
  unfold mTable_m_rounds bTable_m_rounds
  simp [t_now q.t, ix_round]
theorem hands0 : mTable_m_hands [.ref r] h = .ok (.int c) h := by
  unfold mTable_m_hands bTable_m_hands
  simp [t_now q.t, ix_hands]
theorem busy0 : mTable_m_busy [.ref r] h = .ok (.bl false) h := by
  unfold mTable_m_busy bTable_m_busy
  simp [t_work q.t]
theorem done0 : mTable_m_done [.ref r] h = .ok (.lst []) h := by
  have s : srcOfD h (.ref (r + 1)) = some ⟨[], fun h => h[r + 1]? = some (.lst [])⟩ := by
    simp only [srcOfD, srcOf, q.p]
  have l : lcGo (fun h => h[r + 1]? = some (.lst [])) (gTupM 3 (gsCons (gSet 1) (gsCons (gSet 2) (gsCons (gSet 3) gsNil)))) tYesM (mTup (aCons (mVar 1) (aCons (mVar 2) aNil))) [some (.ref r), none, none, none] [] [] h = .ok [] h := by
    unfold lcGo; rw [if_pos q.p]
  unfold mTable_m_done bTable_m_done
  simp [t_past q.t, s, wipeD]
  rw [l]
  rfl
end
/-- the text of a table -/
def tsS (c : Int) : Str := Str.empty ++ Str.ofString "Table(" ++ itoS c ++ Str.ofString " hands, " ++ itoS 0 ++ Str.ofString " things)"
theorem sz100 : ∀ n : Nat, n ≤ 100 → n ≤ sizeLine := fun n hn => sz_small (by omega)
theorem js_len (a b : Str) (h : a.length ≤ 40 ∧ b.length ≤ 40) : (a ++ b).length ≤ sizeLine := sz100 _ (by rw [Str.length_append]; omega)
theorem ts_lens {c : Int} (hc : c = 2 ∨ c = 3 ∨ c = 4) : c.natAbs.log2 < 1920 ∧ Str.empty.length ≤ 40 ∧ (Str.ofString "Table(").length ≤ 40 ∧ (Str.empty ++ Str.ofString "Table(").length ≤ 40 ∧ (itoS c).length ≤ 40 ∧ (Str.empty ++ Str.ofString "Table(" ++ itoS c).length ≤ 40 ∧ (Str.ofString " hands, ").length ≤ 40 ∧ (Str.ofString " hands, 0 things)").length ≤ 40 ∧
    (Str.empty ++ Str.ofString "Table(" ++ itoS c ++ Str.ofString " hands, ").length ≤ 40 ∧ (itoS 0).length ≤ 40 ∧ (Str.empty ++ Str.ofString "Table(" ++ itoS c ++ Str.ofString " hands, " ++ itoS 0).length ≤ 40 ∧ (Str.ofString " things)").length ≤ 40 ∧ Str.empty ++ Str.ofString "Table(" ++ itoS c ++ Str.ofString " hands, 0 things)" = tsS c ∧ okS 1000 (tsS c) = true := by
  rcases hc with rfl | rfl | rfl <;> decide +kernel
theorem js_step (m : ME) (ms : List ME) (acc y : Str) (ρ : DD.Env) (h : Hd) (e : m ρ h = .ok (.str y) h) (l : acc.length ≤ 40 ∧ y.length ≤ 40) : mJs (m :: ms) acc ρ h = mJs ms (acc ++ y) ρ h := by
  rw [mJs_cons, e, jsK_str, if_pos (js_len _ _ l)]
theorem fmt_int {c : Int} (l : c.natAbs.log2 < 1920) (z : (itoS c).length ≤ 40) (h : Hd) : fmtF (.int c) h = .ok (.str (itoS c)) h := by
  simp only [fmtF]; rw [if_pos l]
section
variable {h : Hd} {r : Nat} {c : Int} {k : D} (q : TabN h r c k)
include q
theorem repr0 (hc : c = 2 ∨ c = 3 ∨ c = 4) : mTable_m___repr__ [.ref r] h = .ok (.str (tsS c)) h := by
  obtain ⟨l0, l1, l2, l3, l4, l5, l6, l7, l8, l9, l10, l11, l12, l13⟩ := ts_lens hc
  unfold mTable_m___repr__ bTable_m___repr__
  rw [runB_k, show startD 1 [.ref r] = [some (.ref r)] from rfl, mRet_k]
  rw [js_step (y := Str.ofString "Table(") (e := rfl) (l := ⟨l1, l2⟩)]
  rw [js_step (y := itoS c) (e := by simp [t_now q.t, ix_hands, fmt_int l0 l4]) (l := ⟨l3, l4⟩)]
  rw [js_step (y := Str.ofString " hands, ") (e := rfl) (l := ⟨l5, l6⟩)]
  rw [js_step (y := itoS 0) (e := by
    simp [t_now q.t, there0 q]
    exact fmt_int (c := 0) (by decide) l9 h) (l := ⟨l8, l9⟩)]
  rw [js_step (y := Str.ofString " things)") (e := rfl) (l := ⟨l10, l11⟩)]
  rfl
end
theorem law_now0 {c : Int} {h : Hd} : m_law_now [.int c] h = .ok (nw0 c) h := by
  have d : ∀ h, dispF [(D.str "hands", .int c), (.str "round", .int 1), (.str "clock", .int 0), (.str "things", .dct [] []), (.str "lasting", .lst [])] h = .ok (.new (.dct nwK [.int c, .int 1, .int 0, .dct [] [], .lst []])) h := fun h =>
    dispOf (kk := [.inr "hands", .inr "round", .inr "clock", .inr "things", .inr "lasting"]) rfl (by simp [ofS_inj]) (by simp)
  unfold m_law_now b_law_now
  simp [d]
  rfl
theorem same_pd {d : D} {k : Nat} (p : pd 1000 k d) (hk : k < 40) (h : Hd) : m_law_same [d, d] h = .ok (.bl true) h := same_refl (n := 1000) (by omega) k d 40 h p hk
theorem seq_rt {m1 m2 : MS} {ρ ρ1 : DD.Env} {h h1 : Hd} (e : m1 ρ h = .nx ρ1 h1) : mSeq m1 m2 ρ h = m2 ρ1 h1 := by rw [mSeq_k, e, seqK_nx]
theorem fgo0 {g : MG} {b : MS} {ρ : DD.Env} {h : Hd} : forGo (fun _ => True) g b [] ρ h = .nx ρ h := forGo_nil trivial
theorem fgoC {g : MG} {b : MS} {ρ ρ1 ρ2 : DD.Env} {h h1 : Hd} {d : D} {ds : List D} (a1 : g d ρ h = .ok ρ1 h) (a2 : b ρ1 h = .nx ρ2 h1) : forGo (fun _ => True) g b (d :: ds) ρ h = forGo (fun _ => True) g b ds ρ2 h1 := by
  conv => lhs; unfold forGo
  rw [if_pos trivial]
  simp only [a1, a2, afterB]
noncomputable def soB : MS := (mExpr (mFz (mMeth isOwnL appF (mVar 3) (aCons (mFz (mLc [5] (mIterD (mFz (mBi srtGF (aCons (mIxD (mVar 1) (mC (.str "things"))) aNil)))) (DD.gSet 5) (mCmp cEq (mIxD (mIxD (mIxD (mVar 1) (mC (.str "things"))) (mVar 5)) (mC (.str "place"))) (mVar 4)) (mVar 5))) aNil))))
theorem so_step {c : Int} (x0 x2 : Option D) (pl : String) (h : Hd) (xs : List D) (hz : xs.length ≤ 10) (x5 : Option D) :
    soB [x0, some (nw0 c), x2, some (.ref h.length), some (.str pl), x5] (h ++ [.lst xs]) = .nx [x0, some (nw0 c), x2, some (.ref h.length), some (.str pl), x5] (h ++ [.lst (xs ++ [.lst []])]) := by
  have ap := appF_at (h := h ++ [.lst xs]) (r := h.length) (d := .lst []) (xs := xs) (by simp) (by omega)
  have ow := isOwn_at (h := h ++ [.lst xs]) (r := h.length) (xs := xs) (by simp)
  unfold soB
  simp [ix_things, srt0, lcGo0, ow, ap]
def soD (c : Int) : List D := [.lst [], .lst [], .lst [], .lst [], .int 1, .int c, .int 0, .bl false]
theorem stands0 {h : Hd} {r : Nat} {c : Int} {k : D} (q : TabN h r c k) : m_law_stands_so [.ref r, nw0 c] h = .ok (.bl true) (h ++ [.lst [.lst [], .lst [], .lst []]]) := by
  have t1 := things0 q (pl := "board") (.inl rfl)
  have t2 := things0 q (pl := "heap") (.inr (.inl rfl))
  have t3 := things0 q (pl := "aside") (.inr (.inr rfl))
  have ti := t_is q.t
  have q1 : TabN (h ++ [.lst [.lst [], .lst [], .lst []]]) r c k := ⟨at_app q.t, at_app q.p, at_app q.l⟩
  have gd : (h ++ [Cell.lst [.lst [], .lst [], .lst []]])[h.length]? = some (Cell.lst [.lst [], .lst [], .lst []]) := by simp
  have sr : ∀ l h, srcOfD h (.lst l) = some ⟨l, fun _ => True⟩ := fun l h => rfl
  have srT : ∀ h, srcOfD h (.dct [] []) = some ⟨[], fun _ => True⟩ := fun h => rfl
  have f : mFor (mIterD (mFz (mLst (aCons (mC (.str "board")) (aCons (mC (.str "heap")) (aCons (mC (.str "aside")) aNil)))))) (DD.gSet 4) soB [some (.ref r), some (nw0 c), some (.lst [.lst [], .lst [], .lst []]), some (.ref h.length), none, none] (h ++ [.lst []]) =
      .nx [some (.ref r), some (nw0 c), some (.lst [.lst [], .lst [], .lst []]), some (.ref h.length), some (.str "aside"), none] (h ++ [.lst [.lst [], .lst [], .lst []]]) := by
    simp [sr]
    rw [fgoC (ρ1 := [some (.ref r), some (nw0 c), some (.lst [.lst [], .lst [], .lst []]), some (.ref h.length), some (.str "board"), none]) (by simp) (so_step _ _ "board" h [] (by simp) none),
      fgoC (ρ1 := [some (.ref r), some (nw0 c), some (.lst [.lst [], .lst [], .lst []]), some (.ref h.length), some (.str "heap"), none]) (by simp) (so_step _ _ "heap" h _ (by simp) none),
      fgoC (ρ1 := [some (.ref r), some (nw0 c), some (.lst [.lst [], .lst [], .lst []]), some (.ref h.length), some (.str "aside"), none]) (by simp) (so_step _ _ "aside" h _ (by simp) none), fgo0]
    simp
  have so : ∀ h, m_law_same [.lst (soD c), .lst (soD c)] h = .ok (.bl true) h := fun h => same_pd (k := 2) (by
    rw [pd_lst]
    refine ⟨by simp [soD], fun d m => ?_⟩
    simp only [soD, List.mem_cons, List.not_mem_nil, or_false] at m
    rcases m with rfl | rfl | rfl | rfl | rfl | rfl | rfl | rfl <;> simp) (by omega) h
  have k1 := lasting0 q1
  have k2 := rounds0 q1
  have k3 := hands0 q1
  have k4 := len0 q1
  have k5 := busy0 q1
  have tq1 := t_is q1.t
  have lz3 : lstOf (h ++ [Cell.lst [.lst [], .lst [], .lst []]]) (.ref h.length) = some [.lst [], .lst [], .lst []] := by simp only [lstOf, gd]
  have szA : ∀ n : Nat, n ≤ 100 → n ≤ sizeLine := fun n hn => sz_small (by omega)
  unfold soD at so
  have all0 : allF [.lst []] (h ++ [Cell.lst [.lst [], .lst [], .lst []]]) = .ok (.val (.bl true)) (h ++ [Cell.lst [.lst [], .lst [], .lst []]]) := rfl
  unfold m_law_stands_so b_law_stands_so
  unfold soB at f
  rw [runB_k, show startD 6 [.ref r, nw0 c] = [some (.ref r), some (nw0 c), none, none, none, none] from rfl]
  rw [seq_rt (ρ1 := [some (.ref r), some (nw0 c), some (.lst [.lst [], .lst [], .lst []]), none, none, none]) (h1 := h) (by simp [ti, t1, t2, t3])]
  rw [seq_rt (ρ1 := [some (.ref r), some (nw0 c), some (.lst [.lst [], .lst [], .lst []]), some (.ref h.length), none, none]) (h1 := h ++ [.lst []]) (by simp)]
  rw [seq_rt f]
  rw [seq_rt (ρ1 := [some (.ref r), some (nw0 c), some (.lst [.lst [], .lst [], .lst [], .lst [], .int 1, .int c, .int 0]), some (.ref h.length), some (.str "aside"), none]) (h1 := h ++ [.lst [.lst [], .lst [], .lst []]]) (by simp [tq1, k1, k2, k3, k4, lenOF, szA])]
  rw [seq_rt (ρ1 := [some (.ref r), some (nw0 c), some (.lst [.lst [], .lst [], .lst [], .lst [], .int 1, .int c, .int 0, .bl false]), some (.ref h.length), some (.str "aside"), none]) (h1 := h ++ [.lst [.lst [], .lst [], .lst []]]) (by simp [tq1, k5, szA])]
  have a0 : atI [D.lst [], .lst [], .lst []] 0 = some (.lst []) := rfl
  rw [seq_rt (ρ1 := [some (.ref r), some (nw0 c), some (.lst [.lst [], .lst [], .lst [], .lst [], .int 1, .int c, .int 0, .bl false]), some (.ref h.length), some (.str "aside"), none]) (h1 := h ++ [.lst [.lst [], .lst [], .lst []]]) (by simp [ix_lasting, ix_round, ix_hands, a0, addF, lz3, newL, szA, so])]
  simp [ix_things, srT, lcGo0, all0]
theorem on_board0 (h : Hd) : mon_board [.dct [] []] h = .ok (.ref h.length) (h ++ [.dct [] []]) := by
  have it : itemsD (h ++ [.dct [] []]) (.dct [] []) = some ⟨[], fun _ => True⟩ := rfl
  unfold mon_board bon_board
  simp [it, fgo0]
/-- where its sheet lies -/
structure Sh0 (h : Hd) (n : Nat) : Prop where
  s : h[n]? = some (shC3 n)
  st : h[n + 8]? = some (.lst [standD [] Th.mrk])
  dn : h[n + 7]? = some (.lst [])
theorem sheet_of0 {c : Int} (h : Hd) : ∃ z, msheet_of [nw0 c] h = .ok (.ref (h.length + 1)) (h ++ z) ∧ Sh0 (h ++ z) (h.length + 1) := by
  obtain ⟨e, si⟩ := sheet_init [] (by simp) (by simp) (fun t m => absurd m List.not_mem_nil) (h ++ [.dct [] []]) h.length (by simp [keysT])
  have ob := on_board0 h
  refine ⟨[.dct [] []] ++ (blk [] (h.length + 1) (shC3 (h.length + 1)) Th.mrk [standD [] Th.mrk] ++ e), ?_, ?_, ?_, ?_⟩
  · simp only [List.length_append, List.length_cons, List.length_nil, Nat.zero_add] at si
    unfold msheet_of bsheet_of
    simp [ix_lasting, ix_things, ob, lcGo0]
    simp only [List.append_assoc, List.cons_append, List.nil_append] at si
    rw [si]
    rfl
  · have := b_sheet (ts := []) (h := h ++ [.dct [] []]) (e := e) (k := Th.mrk) (sh := shC3 (h.length + 1)) (sts := [standD [] Th.mrk])
    simpa using this
  · have := b_stands (ts := []) (h := h ++ [.dct [] []]) (e := e) (k := Th.mrk) (sh := shC3 (h.length + 1)) (sts := [standD [] Th.mrk])
    simpa using this
  · have : (h ++ [.dct [] []] ++ (blk [] (h ++ [Cell.dct [] []]).length (shC3 (h.length + 1)) Th.mrk [standD [] Th.mrk] ++ e))[(h ++ [Cell.dct [] []]).length + 7]? = some (.lst []) := by rw [cat_at]; rfl
    simpa using this
section
variable {h : Hd} {n : Nat} (a : Sh0 h n)
include a
theorem sh_stands : ((insOf h "Sheet" (.ref n)).bind fun p => lookL "stands" p.1 p.2) = some (.ref (n + 8)) := by simp [insOf, a.s, shC3, lookL]
theorem sh_done : ((insOf h "Sheet" (.ref n)).bind fun p => lookL "steps_done" p.1 p.2) = some (.ref (n + 7)) := by simp [insOf, a.s, shC3, lookL, ofS_inj]
theorem sh_is : (insOf h "Sheet" (.ref n)).isSome = true := by simp [insOf, a.s, shC3]
theorem looks0 : mSheet_m_looks [.ref n] h = .ok (.ref h.length) (h ++ [.dct [] []]) := by
  have l : atI [standD [] Th.mrk] (-1) = some (standD [] Th.mrk) := rfl
  have tk : mtold_looks [standD [] Th.mrk] h = .ok (.ref h.length) (h ++ [.dct [] []]) := by
    have sr : srcOfD h (.lst []) = some ⟨[], fun _ => True⟩ := rfl
    unfold mtold_looks btold_looks
    simp [standD, shown_of, shownD, keysT, srt0, sr]
    rw [dcGo_nil trivial]
    rfl
  unfold mSheet_m_looks bSheet_m_looks
  simp [sh_stands a, a.st, l, tk]
theorem steps0 : mSheet_m_steps [.ref n] h = .ok (.lst []) h := by
  have l : listDF [.ref (n + 7)] h = .ok (.new (.lst [])) h := by simp [listDF, listF, dctOf, seqOf, lstOf, a.dn]
  unfold mSheet_m_steps bSheet_m_steps
  simp [sh_done a, l]
end
noncomputable def lw0 : MS := (mSet 1 (mCalG 1 0 (fun ds _ => ds) m_law_bag (aCons (mVar 0) aNil) aNil))
noncomputable def lw1b0 : MS := (mSet 3 (mMakG "Table" 0 1 (fun ds es => pickL [0, 1] (ds ++ es)) mTable_m___init__ aNil (aCons (mVar 2) aNil)))
noncomputable def lw1b1 : MS := (mSet 4 (mFz (mLst (aCons (mMthG "Table" 0 0 (fun ds _ => ds) mTable_m_done (mVar 3) aNil aNil) (aCons (mFz (mBi (reprOF "Table" (fun ds _ => ds) mTable_m___repr__) (aCons (mVar 3) aNil))) aNil)))))
noncomputable def lw1b2 : MS := (mIfS (mOr (mNot (mTru (mCalG 2 0 (fun ds _ => ds) m_law_stands_so (aCons (mVar 3) (aCons (mCalG 1 0 (fun ds _ => ds) m_law_now (aCons (mVar 2) aNil) aNil) aNil)) aNil))) (mNot (mTru (mCalG 2 0 (fun ds _ => ds) m_law_same (aCons (mVar 4) (aCons (mFz (mLst (aCons (mFz (mLst aNil)) (aCons (mJs [(mC (.str "Table(")), (mFmt (mVar 2)), (mC (.str " hands, 0 things)"))] Str.empty) aNil)))) aNil)) aNil)))) (mRet (mC (.bl false))) mNil)
noncomputable def lw1b3 : MS := (mIfS (mOr (mNot (mTru (mCalG 2 0 (fun ds _ => ds) m_law_same (aCons (mFz (mLst (aCons (mMthG "Sheet" 0 0 (fun ds _ => ds) mSheet_m_looks (mMthG "Table" 0 0 (fun ds _ => ds) mTable_m_sheet (mVar 3) aNil aNil) aNil aNil) (aCons (mMthG "Sheet" 0 0 (fun ds _ => ds) mSheet_m_steps (mMthG "Table" 0 0 (fun ds _ => ds) mTable_m_sheet (mVar 3) aNil aNil) aNil aNil) aNil)))) (aCons (mFz (mLst (aCons (mFz mDict0) (aCons (mFz (mLst aNil)) aNil)))) aNil)) aNil))) (mCmp (eqOF "Table" (fun ds _ => ds) mTable_m___eq__ true) (mVar 3) (mMakG "Table" 0 1 (fun ds es => pickL [0, 1] (ds ++ es)) mTable_m___init__ aNil (aCons (mVar 2) aNil)))) (mRet (mC (.bl false))) mNil)
noncomputable def lw1b4 : MS := (mSet 5 (mOwn (mLst (aCons (mAsk clA (mMthG "Table" 0 0 (fun ds _ => ds) mTable_m_undo (mVar 3) aNil aNil)) aNil))))
noncomputable def lw1b5 : MS := (mExpr (mFz (mMeth isOwnL appF (mVar 5) (aCons (mAsk clA (mMthG "Table" 0 0 (fun ds _ => ds) mTable_m_redo (mVar 3) aNil aNil)) aNil))))
noncomputable def lw1b6 : MS := (mIfS (mCmp cNe (mVar 5) (mFz (mBin mulF (mFz (mLst (aCons (mTup (aCons (mC .non) (aCons (mC (.str "NothingLeft")) aNil))) aNil))) (mC (.int 2))))) (mRet (mC (.bl false))) mNil)
noncomputable def lw1b : MS := (mSeq lw1b0 (mSeq lw1b1 (mSeq lw1b2 (mSeq lw1b3 (mSeq lw1b4 (mSeq lw1b5 lw1b6))))))
noncomputable def lw1 : MS := mFor (mIterD (mFz (mLst (aCons (mC (.int 2)) (aCons (mC (.int 3)) (aCons (mC (.int 4)) (aCons (mFz (mBin addF (mC (.int 2)) (mCalG 2 0 (fun ds _ => ds) m_law_get (aCons (mVar 1) (aCons (mC (.int 3)) aNil)) aNil))) aNil))))))) (gSet 2) lw1b
noncomputable def lw2b : MS := (mIfS (mCmp cNe (mAsk clA (mMakG "Table" 0 1 (fun ds es => pickL [0, 1] (ds ++ es)) mTable_m___init__ aNil (aCons (mVar 2) aNil))) (mTup (aCons (mC .non) (aCons (mC (.str "BadHand")) aNil)))) (mRet (mC (.bl false))) mNil)
noncomputable def lw2 : MS := mFor (mIterD (mFz (mLst (aCons (mC (.int 0)) (aCons (mC (.int 1)) (aCons (mC (.int 5)) (aCons (mNeg (mC (.int 1))) (aCons (mC (.bl true)) (aCons (mC (.bl false)) (aCons (mC .non) (aCons (mC (.str "2")) (aCons (mFz (mLst (aCons (mC (.int 2)) aNil))) (aCons (mFz mDict0) (aCons (mTup (aCons (mC (.int 3)) aNil)) (aCons (mFz (mBin addF (mC (.int 5)) (mCalG 2 0 (fun ds _ => ds) m_law_get (aCons (mVar 1) (aCons (mFz (mBin powF (mC (.int 10)) (mC (.int 9)))) aNil)) aNil))) aNil))))))))))))))) (gSet 2) lw2b
noncomputable def lw3 : MS := (mRet (mAndV (mB (mCmp (eqOF "Table" (fun ds _ => ds) mTable_m___eq__ false) (mMakG "Table" 0 0 (fun ds es => pickL [0, 1] (ds ++ ([.int (2)] ++ es))) mTable_m___init__ aNil aNil) (mMakG "Table" 0 1 (fun ds es => pickL [0, 1] (ds ++ es)) mTable_m___init__ aNil (aCons (mC (.int 2)) aNil)))) (mB (mCmp (eqOF "Table" (fun ds _ => ds) mTable_m___eq__ true) (mMakG "Table" 0 0 (fun ds es => pickL [0, 1] (ds ++ ([.int (2)] ++ es))) mTable_m___init__ aNil aNil) (mMakG "Table" 0 1 (fun ds es => pickL [0, 1] (ds ++ es)) mTable_m___init__ aNil (aCons (mC (.int 3)) aNil))))))
noncomputable def lw : MS := (mSeq lw0 (mSeq lw1 (mSeq lw2 lw3)))
theorem law_eq : blaw = lw := rfl
theorem TabN.app {h : Hd} {r : Nat} {c : Int} {k : D} (q : TabN h r c k) (z : Hd) : TabN (h ++ z) r c k := ⟨at_app q.t, at_app q.p, at_app q.l⟩
theorem Sh0.app {h : Hd} {n : Nat} (q : Sh0 h n) (z : Hd) : Sh0 (h ++ z) n := ⟨at_app q.s, at_app q.st, at_app q.dn⟩
theorem at_ne' {h : Hd} {i j : Nat} {a b : Cell} (q : h[i]? = some a) (ne : j ≠ i) : (h.set j b)[i]? = some a := by
  rw [List.getElem?_set_ne ne]; exact q
theorem at_self' {h : Hd} {i : Nat} {a b : Cell} (q : h[i]? = some a) : (h.set i b)[i]? = some b := by
  have l : i < h.length := (List.getElem?_eq_some_iff.mp q).1
  rw [List.getElem?_set_self l]
theorem sheetA {h : Hd} {r : Nat} {c : Int} (q : TabN h r c .non) : ∃ z, mTable_m_sheet [.ref r] h = .ok (.ref (h.length + 1)) ((h ++ z).set r (tab0 c r (.ref (h.length + 1)))) ∧ Sh0 (h ++ z) (h.length + 1) := by
  obtain ⟨z, e, s⟩ := sheet_of0 (c := c) h
  refine ⟨z, ?_, s⟩
  have q2 := q.app z
  have ts := ts_kept (x := .ref (h.length + 1)) q2.t
  have tk := t_kept (at_self' (b := tab0 c r (.ref (h.length + 1))) q2.t)
  unfold mTable_m_sheet bTable_m_sheet
  simp [t_kept q.t, t_now q.t, e, ts, tk, DD.isNon]
theorem sheetB {h : Hd} {r : Nat} {c : Int} {m : Nat} (q : TabN h r c (.ref m)) : mTable_m_sheet [.ref r] h = .ok (.ref m) h := by
  unfold mTable_m_sheet bTable_m_sheet
  simp [t_kept q.t, DD.isNon]
theorem undo0 {h : Hd} {r : Nat} {c : Int} {k : D} (q : TabN h r c k) : mTable_m_undo [.ref r] h = .exc ⟨"NothingLeft", [], []⟩ h := by
  have e : cEq (.ref (r + 1)) (.lst []) h = .ok true h := by
    have : eqF h (.ref (r + 1)) (.lst []) = some true := by
      have := cEq_lists (xs := []) (ys := []) (pyO_ref (r := r + 1) (h := h) q.p) (pyO_lst []) rfl (by simp) (by simp)
      simpa using this
    unfold cEq; rw [this]; rfl
  unfold mTable_m_undo bTable_m_undo
  simp [t_past q.t, e]
theorem redo0 {h : Hd} {r : Nat} {c : Int} {k : D} (q : TabN h r c k) : mTable_m_redo [.ref r] h = .exc ⟨"NothingLeft", [], []⟩ h := by
  have e : cEq (.ref (r + 2)) (.lst []) h = .ok true h := by
    have : eqF h (.ref (r + 2)) (.lst []) = some true := by
      have := cEq_lists (xs := []) (ys := []) (pyO_ref (r := r + 2) (h := h) q.l) (pyO_lst []) rfl (by simp) (by simp)
      simpa using this
    unfold cEq; rw [this]; rfl
  unfold mTable_m_redo bTable_m_redo
  simp [t_later q.t, e]
theorem nq_now {c c' : Int} {f : D → D → Option Bool} {h : Hd} (hf : ∀ i j : Int, f (.int i) (.int j) = some (decide (i = j))) (h1 : f (.dct [] []) (.dct [] []) = some true) (h2 : f (.lst []) (.lst []) = some true) : nqF f h (nw0 c) (nw0 c') = some (decide (c = c')) := by
  unfold nw0 nwK
  simp [nqF, dctOf, hitsF, keyD, valG, hf, h1, h2, ofS_inj]
theorem eq0 {h : Hd} {r r' : Nat} {c c' : Int} {k k' : D} (q : TabN h r c k) (q' : TabN h r' c' k') : mTable_m___eq__ [.ref r, .ref r'] h = .ok (.bl (decide (c = c'))) h := by
  have e : cEqD (nw0 c) (nw0 c') h = .ok (decide (c = c')) h := by
    rw [cEqD_k, nq_now]
    · rfl
    · intro i j; simp [dqF, pqF, pyO, isPy, pyD, PyData.canLay0, PyData.depth, PyData.eqv]; by_cases e : i = j <;> simp [e]
    · simp [dqF, pqF, pyO, isPy, pyD, PyData.canLay0, PyData.depth, PyData.eqv, nqF, dctOf, hitsF]
    · simp [dqF, pqF, pyO, isPy, isPys, pyD, pyDs, PyData.canLay0, PyData.canLayAll0, PyData.depth, PyData.depthAll, PyData.eqv, PyData.eqvAll]
  have i : isoF "Table" [.ref r', .glb "Table"] h = .ok (.val (.bl true)) h := by
    simp only [isoF, t_is q'.t]
    simp
  unfold mTable_m___eq__ bTable_m___eq__
  simp [i, t_now q.t, t_now q'.t, e, -cEqD_k]
theorem srtR {h : Hd} {a : Nat} (q : h[a]? = some (.dct [] [])) : srtGF [.ref a] h = .ok (.new (.lst [])) h := by
  have e : srtI [] = [] := List.eq_nil_of_length_eq_zero (by simp [srtI])
  have d : dctOf h (.ref a) = some ([], []) := by simp only [dctOf, q]
  have l : DD.listOf h (.ref a) = none := by simp only [DD.listOf, lstOf, q]
  have k : keysI ([] : List D) = some [] := rfl
  simp [srtGF, elseF, srtDF, d, l, k, e]
theorem same_d0 {h : Hd} {a : Nat} (q : h[a]? = some (.dct [] [])) : r_law_same 39 [.ref a, .dct [] []] h = .ok (.bl true) h := by
  have i1 : isiF [.dct [] [], .ty "dict"] h = .ok (.val (.bl true)) h := rfl
  have i2 : isiF [.ref a, .ty "dict"] h = .ok (.val (.bl true)) h := by simp [isiF, tyName, tyKnown, isT, q]
  have n : cNe (.lst []) (.lst []) h = .ok false h := by
    refine cNe_of (b := true) ?_
    unfold cEq
    have := cEq_lists (h := h) (xs := []) (ys := []) (pyO_lst []) (pyO_lst []) rfl (by simp) (by simp)
    simp only [List.map_nil] at this
    rw [this]; rfl
  have sr : srcOfD h (.dct [] []) = some ⟨[], fun _ => True⟩ := rfl
  have all0 : allF [.lst []] h = .ok (.val (.bl true)) h := rfl
  have b : mRet (mFz (mBi allF (aCons (mFz (mLc [2] (mIterD (mVar 1)) (DD.gSet 2) tYesM (mCalG 2 0 (fun ds _ => ds) (r_law_same 38) (aCons (mIxD (mVar 0) (mVar 2)) (aCons (mIxD (mVar 1) (mVar 2)) aNil)) aNil))) aNil))) [some (.ref a), some (.dct [] []), none, none, none] h = .rt (.bl true) h := by
    simp [sr, lcGo0, all0]
  have lkd : mLk 1 (mRet (mFz (mBi allF (aCons (mFz (mLc [2] (mIterD (mVar 1)) (DD.gSet 2) tYesM (mCalG 2 0 (fun ds _ => ds) (r_law_same 38) (aCons (mIxD (mVar 0) (mVar 2)) (aCons (mIxD (mVar 1) (mVar 2)) aNil)) aNil))) aNil)))) [some (.ref a), some (.dct [] []), none, none, none] h = .rt (.bl true) h := by
    rw [mLk_no (d := .dct [] []) rfl (fun r z => by cases z), b]
  show runB 5 (b_law_same (r_law_same 38)) _ _ = _
  unfold b_law_same
  simp [i1, i2, srtR q, srt0, n, lkd]
theorem same_sh {h : Hd} {a : Nat} (q : h[a]? = some (.dct [] [])) : m_law_same [.lst [.ref a, .lst []], .lst [.dct [] [], .lst []]] h = .ok (.bl true) h := by
  have l0 : r_law_same 39 [.lst [], .lst []] h = .ok (.bl true) h := same_refl (n := 1000) (by omega) 1 _ _ h (by rw [pd_lst]; exact ⟨by simp, fun d m => absurd m List.not_mem_nil⟩) (by omega)
  have d0 := same_d0 q
  have e : lcGo (fun _ => True) (gTupM 2 (gsCons (gSet 3) (gsCons (gSet 4) gsNil))) tYesM (mCalG 2 0 (fun ds _ => ds) (r_law_same 39) (aCons (mVar 3) (aCons (mVar 4) aNil)) aNil) [some (.lst [.ref a, .lst []]), some (.lst [.dct [] [], .lst []]), none, none, none] [.tup [.ref a, .dct [] []], .tup [.lst [], .lst []]] [] h = .ok [.bl true, .bl true] h := by
    refine (lcGo_pure (fun _ => .bl true) trivial [.tup [.ref a, .dct [] []], .tup [.lst [], .lst []]] [] (fun d md => ?_) (sz_small (by simp))).trans rfl
    simp only [List.mem_cons, List.not_mem_nil, or_false] at md
    rcases md with rfl | rfl
    · exact ⟨_, rfl, rfl, by simp [d0]⟩
    · exact ⟨_, rfl, rfl, by simp [l0]⟩
  have z : zipD [D.ref a, .lst []] [.dct [] [], .lst []] = [.tup [.ref a, .dct [] []], .tup [.lst [], .lst []]] := rfl
  have a1 : allF [.lst [D.bl true, .bl true]] h = .ok (.val (.bl true)) h := rfl
  show runB 5 (b_law_same (r_law_same 39)) _ _ = _
  unfold b_law_same
  simp [isiF, tyName, tyKnown, isT, tysOf, z, e, a1]
theorem turn1 {c : Int} (hc : c = 2 ∨ c = 3 ∨ c = 4) (h : Hd) (x0 x3 x4 x5 : Option D) : ∃ y4 y5 z, lw1b [x0, some (.ref 0), some (.int c), x3, x4, x5] h = .nx [x0, some (.ref 0), some (.int c), some (.ref h.length), y4, y5] (h ++ z) := by
  have c1 : 2 ≤ c := by omega
  have c2 : c ≤ 4 := by omega
  have ti := table_init c1 c2 h
  obtain ⟨H0, eH0⟩ : ∃ H0, H0 = h ++ [tab0 c h.length .non, .lst [], .lst []] := ⟨_, rfl⟩
  rw [← eH0] at ti
  have q0 : TabN H0 h.length c .non := ⟨by rw [eH0]; simp, by rw [eH0]; simp, by rw [eH0]; simp⟩
  have s0 : lw1b0 [x0, some (.ref 0), some (.int c), x3, x4, x5] h = .nx [x0, some (.ref 0), some (.int c), some (.ref h.length), x4, x5] H0 := by
    unfold lw1b0
    simp [ti]
  have rp : reprOF "Table" (fun ds _ => ds) mTable_m___repr__ [.ref h.length] H0 = .ok (.val (.str (tsS c))) H0 := by
    simp only [reprOF, t_is q0.t, if_true, repr0 q0 hc]
  have s1 : lw1b1 [x0, some (.ref 0), some (.int c), some (.ref h.length), x4, x5] H0 = .nx [x0, some (.ref 0), some (.int c), some (.ref h.length), some (.lst [.lst [], .str (tsS c)]), x5] H0 := by
    unfold lw1b1
    simp [t_is q0.t, done0 q0, rp]
  have so := stands0 q0
  obtain ⟨H1, eH1⟩ : ∃ H1, H1 = H0 ++ [Cell.lst [.lst [], .lst [], .lst []]] := ⟨_, rfl⟩
  rw [← eH1] at so
  have q1 : TabN H1 h.length c .non := by rw [eH1]; exact q0.app _
  obtain ⟨l0, l1, l2, l3, l4, l5, l6, l7, l8, l9, l10, l11, l12, l13⟩ := ts_lens hc
  have js : mJs [(mC (.str "Table(")), (mFmt (mVar 2)), (mC (.str " hands, 0 things)"))] Str.empty [x0, some (.ref 0), some (.int c), some (.ref h.length), some (.lst [.lst [], .str (tsS c)]), x5] H1 = .ok (.str (tsS c)) H1 := by
    rw [js_step (y := Str.ofString "Table(") (e := rfl) (l := ⟨l1, l2⟩)]
    rw [js_step (y := itoS c) (e := by simp [fmt_int l0 l4]) (l := ⟨l3, l4⟩)]
    rw [js_step (y := Str.ofString " hands, 0 things)") (e := rfl) (l := ⟨l5, l7⟩)]
    rw [l12]; rfl
  have sm : m_law_same [.lst [.lst [], .str (tsS c)], .lst [.lst [], .str (tsS c)]] H1 = .ok (.bl true) H1 := same_pd (k := 2) (by
    rw [pd_lst]
    refine ⟨by simp, fun d m => ?_⟩
    simp only [List.mem_cons, List.not_mem_nil, or_false] at m
    rcases m with rfl | rfl
    · simp
    · simp [l13]) (by omega) H1
  have s2 : lw1b2 [x0, some (.ref 0), some (.int c), some (.ref h.length), some (.lst [.lst [], .str (tsS c)]), x5] H0 = .nx [x0, some (.ref 0), some (.int c), some (.ref h.length), some (.lst [.lst [], .str (tsS c)]), x5] H1 := by
    unfold lw1b2
    simp [law_now0, so, js, sm, -mJs_cons]
  obtain ⟨z, sA, sh⟩ := sheetA q1
  obtain ⟨m, em⟩ : ∃ m, m = H1.length + 1 := ⟨_, rfl⟩
  rw [← em] at sA sh
  have hn : h.length < H1.length := (List.getElem?_eq_some_iff.mp q1.t).1
  obtain ⟨H3, eH3⟩ : ∃ H3, H3 = (H1 ++ z).set h.length (tab0 c h.length (.ref m)) := ⟨_, rfl⟩
  rw [← eH3] at sA
  have q2 := q1.app z
  have q3 : TabN H3 h.length c (.ref m) := ⟨by rw [eH3]; exact at_self' q2.t, by rw [eH3]; exact at_ne' q2.p (by omega), by rw [eH3]; exact at_ne' q2.l (by omega)⟩
  have sh3 : Sh0 H3 m := ⟨by rw [eH3]; exact at_ne' sh.s (by omega), by rw [eH3]; exact at_ne' sh.st (by omega), by rw [eH3]; exact at_ne' sh.dn (by omega)⟩
  have lk := looks0 sh3
  obtain ⟨H4, eH4⟩ : ∃ H4, H4 = H3 ++ [Cell.dct [] []] := ⟨_, rfl⟩
  rw [← eH4] at lk
  have q4 : TabN H4 h.length c (.ref m) := by rw [eH4]; exact q3.app _
  have sh4 : Sh0 H4 m := by rw [eH4]; exact sh3.app _
  have sB := sheetB q4
  have stp := steps0 sh4
  have ss := same_sh (h := H4) (a := H3.length) (by rw [eH4]; simp)
  have t5 := table_init c1 c2 H4
  obtain ⟨H5, eH5⟩ : ∃ H5, H5 = H4 ++ [tab0 c H4.length .non, .lst [], .lst []] := ⟨_, rfl⟩
  rw [← eH5] at t5
  have q5 : TabN H5 h.length c (.ref m) := by rw [eH5]; exact q4.app _
  have r5 : TabN H5 H4.length c .non := ⟨by rw [eH5]; simp, by rw [eH5]; simp, by rw [eH5]; simp⟩
  have e5 : eqOF "Table" (fun ds _ => ds) mTable_m___eq__ true (.ref h.length) (.ref H4.length) H5 = .ok false H5 := by
    simp [eqOF, t_is q5.t, t_is r5.t, eq0 q5 r5]
  have s3 : lw1b3 [x0, some (.ref 0), some (.int c), some (.ref h.length), some (.lst [.lst [], .str (tsS c)]), x5] H1 = .nx [x0, some (.ref 0), some (.int c), some (.ref h.length), some (.lst [.lst [], .str (tsS c)]), x5] H5 := by
    unfold lw1b3
    simp [t_is q1.t, sA, sh_is sh3, lk, t_is q4.t, sB, sh_is sh4, stp, ss, t5, e5]
  have ask : clA.lookup ("NothingLeft" : Str) = some ("NothingLeft" : Str) := by decide +kernel
  have ud := undo0 q5
  obtain ⟨H6, eH6⟩ : ∃ H6, H6 = H5 ++ [Cell.lst [.tup [.non, .str "NothingLeft"]]] := ⟨_, rfl⟩
  have q6 : TabN H6 h.length c (.ref m) := by rw [eH6]; exact q5.app _
  have s4 : lw1b4 [x0, some (.ref 0), some (.int c), some (.ref h.length), some (.lst [.lst [], .str (tsS c)]), x5] H5 = .nx [x0, some (.ref 0), some (.int c), some (.ref h.length), some (.lst [.lst [], .str (tsS c)]), some (.ref H5.length)] H6 := by
    unfold lw1b4
    simp [t_is q5.t, ud, askR_exc ask, eH6]
  have rd := redo0 q6
  have ap : appF (.ref H5.length) [.tup [.non, .str "NothingLeft"]] H6 = .ok (.val .non) (H5 ++ [Cell.lst [.tup [.non, .str "NothingLeft"], .tup [.non, .str "NothingLeft"]]]) := by
    rw [appF_at (xs := [.tup [.non, .str "NothingLeft"]]) (by rw [eH6]; simp) (by simp), eH6]; simp
  have ow : isOwnL H6 (.ref H5.length) = true := isOwn_at (xs := [.tup [.non, .str "NothingLeft"]]) (by rw [eH6]; simp)
  obtain ⟨H7, eH7⟩ : ∃ H7, H7 = H5 ++ [Cell.lst [.tup [.non, .str "NothingLeft"], .tup [.non, .str "NothingLeft"]]] := ⟨_, rfl⟩
  rw [← eH7] at ap
  have s5 : lw1b5 [x0, some (.ref 0), some (.int c), some (.ref h.length), some (.lst [.lst [], .str (tsS c)]), some (.ref H5.length)] H6 = .nx [x0, some (.ref 0), some (.int c), some (.ref h.length), some (.lst [.lst [], .str (tsS c)]), some (.ref H5.length)] H7 := by
    unfold lw1b5
    simp [ow, t_is q6.t, rd, askR_exc ask, ap]
  have ne : cNe (.ref H5.length) (.lst [.tup [.non, .str "NothingLeft"], .tup [.non, .str "NothingLeft"]]) H7 = .ok false H7 := by
    refine cNe_of (b := true) ?_
    have g : H7[H5.length]? = some (.lst [.tup [.non, .str "NothingLeft"], .tup [.non, .str "NothingLeft"]]) := by rw [eH7]; simp
    have sk : PyData.strOk ("NothingLeft" : Str) = true := by decide +kernel
    have ev : PyData.eqv (.list [.tuple [.none, .str "NothingLeft"], .tuple [.none, .str "NothingLeft"]]) (.list [.tuple [.none, .str "NothingLeft"], .tuple [.none, .str "NothingLeft"]]) = true := by simp [PyData.eqv, PyData.eqvAll]
    have : eqF H7 (.ref H5.length) (.lst [.tup [.non, .str "NothingLeft"], .tup [.non, .str "NothingLeft"]]) = some true := by
      unfold eqF
      simp only [scalV]
      unfold eqF.deepE
      simp [pyO, g, isPy, isPys, pyD, pyDs, PyData.canLay0, PyData.canLayAll0, PyData.depth, PyData.depthAll, ev, sk]
    unfold cEq; rw [this]; rfl
  have s6 : lw1b6 [x0, some (.ref 0), some (.int c), some (.ref h.length), some (.lst [.lst [], .str (tsS c)]), some (.ref H5.length)] H7 = .nx [x0, some (.ref 0), some (.int c), some (.ref h.length), some (.lst [.lst [], .str (tsS c)]), some (.ref H5.length)] H7 := by
    have mu : mulF (.lst [.tup [.non, .str "NothingLeft"]]) (.int 2) H7 = .ok (.new (.lst [.tup [.non, .str "NothingLeft"], .tup [.non, .str "NothingLeft"]])) H7 := by
      simp only [mulF, lstOf]
      rw [if_pos ⟨by omega, by omega, sz_small (by decide)⟩]
      rfl
    unfold lw1b6
    simp [mu, ne]
  refine ⟨some (.lst [.lst [], .str (tsS c)]), some (.ref H5.length), H7.drop h.length, ?_⟩
  have eH : h ++ H7.drop h.length = H7 := by
    have p0 : h <+: H0 := ⟨_, eH0.symm⟩
    have p1 : H0 <+: H1 := ⟨_, eH1.symm⟩
    have pz : h <+: H1 ++ z := (p0.trans p1).trans ⟨z, rfl⟩
    have p3 : h <+: H3 := by
      obtain ⟨w, ew⟩ := pz
      rw [eH3, ← ew]
      rw [List.set_append_right _ _ (Nat.le_refl _)]
      exact ⟨_, rfl⟩
    have p4 : H3 <+: H4 := ⟨_, eH4.symm⟩
    have p5 : H4 <+: H5 := ⟨_, eH5.symm⟩
    have p7 : H5 <+: H7 := ⟨_, eH7.symm⟩
    obtain ⟨w, ew⟩ := ((p3.trans p4).trans p5).trans p7
    rw [← ew]; simp
  rw [eH]
  unfold lw1b
  rw [seq_rt s0, seq_rt s1, seq_rt s2, seq_rt s3, seq_rt s4, seq_rt s5, s6]
/-- no number from 2 to 4 -/
inductive NoHand : D → Prop
  | int {i : Int} (h : i < 2 ∨ 4 < i) : NoHand (.int i)
  | bl (b : Bool) : NoHand (.bl b)
  | non : NoHand .non
  | str (s : Str) : NoHand (.str s)
  | lst (xs : List D) : NoHand (.lst xs)
  | tup (xs : List D) : NoHand (.tup xs)
  | dct : NoHand (.dct [] [])
theorem no_hand {d : D} (n : NoHand d) (h : Hd) : mis_number [d, .int 2, .int 4] h = .ok (.bl false) h := by
  cases n with
  | int q => exact num_no q h
  | bl b => unfold mis_number bis_number; simp [isiF, tyName, tyKnown, isT]
  | non => unfold mis_number bis_number; simp [isiF, tyName, tyKnown, isT]
  | str s => unfold mis_number bis_number; simp [isiF, tyName, tyKnown, isT]
  | lst xs => unfold mis_number bis_number; simp [isiF, tyName, tyKnown, isT]
  | tup xs => unfold mis_number bis_number; simp [isiF, tyName, tyKnown, isT]
  | dct => unfold mis_number bis_number; simp [isiF, tyName, tyKnown, isT]
theorem turn2 {d : D} (n : NoHand d) (h : Hd) (x0 x3 x4 x5 : Option D) : lw2b [x0, some (.ref 0), some d, x3, x4, x5] h = .nx [x0, some (.ref 0), some d, x3, x4, x5] (h ++ [.ins "Table" [] []]) := by
  have nh := no_hand n (h ++ [.ins "Table" [] []])
  have ti : mTable_m___init__ [.ref h.length, d] (h ++ [.ins "Table" [] []]) = .exc ⟨"BadHand", [], []⟩ (h ++ [.ins "Table" [] []]) := by
    unfold mTable_m___init__ bTable_m___init__
    simp [nh]
  have ask : clA.lookup ("BadHand" : Str) = some ("BadHand" : Str) := by decide +kernel
  have ne : ∀ h, cNe (.tup [.non, .str "BadHand"]) (.tup [.non, .str "BadHand"]) h = .ok false h := fun h => by
    refine cNe_of (b := true) ?_
    have sk : PyData.strOk ("BadHand" : Str) = true := by decide +kernel
    have ev : PyData.eqv (.tuple [.none, .str "BadHand"]) (.tuple [.none, .str "BadHand"]) = true := by simp [PyData.eqv, PyData.eqvAll]
    have : eqF h (.tup [.non, .str "BadHand"]) (.tup [.non, .str "BadHand"]) = some true := by
      unfold eqF
      simp only [scalV]
      unfold eqF.deepE
      simp [pyO, isPy, isPys, pyD, pyDs, PyData.canLay0, PyData.canLayAll0, PyData.depth, PyData.depthAll, ev, sk]
    unfold cEq; rw [this]; rfl
  have mf : ∀ (n : Nat) (x : Xc) (h : Hd), madeF n (.exc x h) = .exc x h := fun n x h => rfl
  unfold lw2b
  simp [ti, mf, askR_exc ask, ne]
/-- all turns of a loop, the heap grows -/
theorem loop_grow {b : MS} {x0 : Option D} {P : D → Prop} (st : ∀ (d : D) (h : Hd) (x3 x4 x5 : Option D), P d → ∃ y3 y4 y5 z, b [x0, some (.ref 0), some d, x3, x4, x5] h = .nx [x0, some (.ref 0), some d, y3, y4, y5] (h ++ z)) :
    ∀ (ds : List D) (h : Hd) (x2 x3 x4 x5 : Option D), (∀ d ∈ ds, P d) → ∃ y2 y3 y4 y5 z, forGo (fun _ => True) (DD.gSet 2) b ds [x0, some (.ref 0), x2, x3, x4, x5] h = .nx [x0, some (.ref 0), y2, y3, y4, y5] (h ++ z)
  | [], h, x2, x3, x4, x5, _ => ⟨x2, x3, x4, x5, [], by rw [fgo0, List.append_nil]⟩
  | d :: ds, h, x2, x3, x4, x5, hp => by
    obtain ⟨y3, y4, y5, z, e⟩ := st d h x3 x4 x5 (hp d (by simp))
    obtain ⟨y2', y3', y4', y5', z', e'⟩ := loop_grow st ds (h ++ z) (some d) y3 y4 y5 fun x m => hp x (by simp [m])
    refine ⟨y2', y3', y4', y5', z ++ z', ?_⟩
    rw [fgoC (ρ1 := [x0, some (.ref 0), some d, x3, x4, x5]) (by simp) e, e', List.append_assoc]
theorem main : ∀ ns : List Int, ns.length ≤ 63 → ∃ h', mlaw [.rol (ns.map .int)] [] = .ok (.bl true) h' := by
  intro ns hn
  have ml : mlaw = runB 6 blaw := rfl
  have e0 : startD 6 [.rol (ns.map .int)] = [some (.rol (ns.map .int)), none, none, none, none, none] := rfl
  have t0 : lw0 [some (.rol (ns.map .int)), none, none, none, none, none] [] = .nx [some (.rol (ns.map .int)), some (.ref 0), none, none, none, none] [bagC ns 0 0 8989 0 0] := by
    have ec : cutL (ns.map D.int) none (some 63) = ns.map .int := by
      rw [show (some 63 : Option Int) = some ((63 : Nat) : Int) from rfl, cutL_to, List.take_of_length_le (by simpa using hn)]
    unfold lw0 m_law_bag b_law_bag bagC
    simp [ec]
  have b0 : BagE [] [bagC ns 0 0 8989 0 0] := .of ⟨ns, 0, 0, 8989, 0, 0, rfl, hn, by omega, by omega, by omega, by omega⟩
  obtain ⟨i, h1, e1, r1, b1⟩ := getE (sz := 3) b0 (by omega)
  have sr : ∀ l h, srcOfD h (.lst l) = some ⟨l, fun _ => True⟩ := fun l h => rfl
  have ad : ∀ h, addF (.int 2) (.int i) h = .ok (.val (.int (2 + i))) h := fun h => rfl
  obtain ⟨y2, y3, y4, y5, z1, g1⟩ := loop_grow (b := lw1b) (x0 := some (.rol (ns.map .int))) (P := fun d => ∃ c : Int, d = .int c ∧ (c = 2 ∨ c = 3 ∨ c = 4)) (fun d h x3 x4 x5 ⟨c, ed, hc⟩ => by
    subst ed
    obtain ⟨y4, y5, z, e⟩ := turn1 hc h (some (.rol (ns.map .int))) x3 x4 x5
    exact ⟨_, y4, y5, z, e⟩) [.int 2, .int 3, .int 4, .int (2 + i)] h1 none none none none (fun d m => by
      simp only [List.mem_cons, List.not_mem_nil, or_false] at m
      rcases m with rfl | rfl | rfl | rfl
      · exact ⟨2, rfl, .inl rfl⟩
      · exact ⟨3, rfl, .inr (.inl rfl)⟩
      · exact ⟨4, rfl, .inr (.inr rfl)⟩
      · exact ⟨2 + i, rfl, by omega⟩)
  have t1 : lw1 [some (.rol (ns.map .int)), some (.ref 0), none, none, none, none] [bagC ns 0 0 8989 0 0] = .nx [some (.rol (ns.map .int)), some (.ref 0), y2, y3, y4, y5] (h1 ++ z1) := by
    rw [← g1]
    unfold lw1
    simp [e1, ad, sr]
  have b1' := b1.app z1
  obtain ⟨j, h2, e2, r2, b2⟩ := getE (sz := 1000000000) b1' (by omega)
  have ad2 : ∀ h, addF (.int 5) (.int j) h = .ok (.val (.int (5 + j))) h := fun h => rfl
  obtain ⟨w2, w3, w4, w5, z2, g2⟩ := loop_grow (b := lw2b) (x0 := some (.rol (ns.map .int))) (P := NoHand) (fun d h x3 x4 x5 n => ⟨x3, x4, x5, _, turn2 n h _ x3 x4 x5⟩) [.int 0, .int 1, .int 5, .int (-1), .bl true, .bl false, .non, .str "2", .lst [.int 2], .dct [] [], .tup [.int 3], .int (5 + j)] h2 y2 y3 y4 y5 (fun d m => by
      simp only [List.mem_cons, List.not_mem_nil, or_false] at m
      rcases m with rfl | rfl | rfl | rfl | rfl | rfl | rfl | rfl | rfl | rfl | rfl | rfl
      · exact .int (by omega)
      · exact .int (by omega)
      · exact .int (by omega)
      · exact .int (by omega)
      · exact .bl _
      · exact .bl _
      · exact .non
      · exact .str _
      · exact .lst _
      · exact .dct
      · exact .tup _
      · exact .int (by omega))
  have pw : ∀ h, powF (.int 10) (.int 9) h = .ok (.val (.int 1000000000)) h := fun h => by
    simp only [powF]
    rw [if_pos (by omega)]
    rfl
  have t2 : lw2 [some (.rol (ns.map .int)), some (.ref 0), y2, y3, y4, y5] (h1 ++ z1) = .nx [some (.rol (ns.map .int)), some (.ref 0), w2, w3, w4, w5] (h2 ++ z2) := by
    rw [← g2]
    unfold lw2
    simp [pw, e2, ad2, sr]
  obtain ⟨h, eh⟩ : ∃ h, h = h2 ++ z2 := ⟨_, rfl⟩
  rw [← eh] at t2
  have a1 := table_init (c := 2) (by omega) (by omega) h
  obtain ⟨A1, eA1⟩ : ∃ A, A = h ++ [tab0 2 h.length .non, .lst [], .lst []] := ⟨_, rfl⟩
  rw [← eA1] at a1
  have q1 : TabN A1 h.length 2 .non := ⟨by rw [eA1]; simp, by rw [eA1]; simp, by rw [eA1]; simp⟩
  have a2 := table_init (c := 2) (by omega) (by omega) A1
  obtain ⟨A2, eA2⟩ : ∃ A, A = A1 ++ [tab0 2 A1.length .non, .lst [], .lst []] := ⟨_, rfl⟩
  rw [← eA2] at a2
  have q2 : TabN A2 A1.length 2 .non := ⟨by rw [eA2]; simp, by rw [eA2]; simp, by rw [eA2]; simp⟩
  have q12 : TabN A2 h.length 2 .non := by rw [eA2]; exact q1.app _
  have a3 := table_init (c := 2) (by omega) (by omega) A2
  obtain ⟨A3, eA3⟩ : ∃ A, A = A2 ++ [tab0 2 A2.length .non, .lst [], .lst []] := ⟨_, rfl⟩
  rw [← eA3] at a3
  have q3 : TabN A3 A2.length 2 .non := ⟨by rw [eA3]; simp, by rw [eA3]; simp, by rw [eA3]; simp⟩
  have a4 := table_init (c := 3) (by omega) (by omega) A3
  obtain ⟨A4, eA4⟩ : ∃ A, A = A3 ++ [tab0 3 A3.length .non, .lst [], .lst []] := ⟨_, rfl⟩
  rw [← eA4] at a4
  have q4 : TabN A4 A3.length 3 .non := ⟨by rw [eA4]; simp, by rw [eA4]; simp, by rw [eA4]; simp⟩
  have q34 : TabN A4 A2.length 2 .non := by rw [eA4]; exact q3.app _
  have f1 : eqOF "Table" (fun ds _ => ds) mTable_m___eq__ false (.ref h.length) (.ref A1.length) A2 = .ok true A2 := by
    simp [eqOF, t_is q12.t, t_is q2.t, eq0 q12 q2]
  have f2 : eqOF "Table" (fun ds _ => ds) mTable_m___eq__ true (.ref A2.length) (.ref A3.length) A4 = .ok true A4 := by
    simp [eqOF, t_is q34.t, t_is q4.t, eq0 q34 q4]
  refine ⟨A4, ?_⟩
  rw [ml, law_eq, runB_k, e0]
  unfold lw
  rw [seq_rt t0, seq_rt t1, seq_rt t2]
  unfold lw3
  simp [a1, a2, f1, a3, a4, f2]
abbrev stcBadCard : Stmt := clsMeth (topS 4) 0
theorem sccBadCard : FnScope ["self"] ["self"] (defScope stcBadCard) := ⟨rfl, rfl, rfl, by decide +kernel, rfl, by decide +kernel, by decide +kernel⟩
abbrev stcBadChange : Stmt := clsMeth (topS 6) 0
theorem sccBadChange : FnScope ["self"] ["self"] (defScope stcBadChange) := ⟨rfl, rfl, rfl, by decide +kernel, rfl, by decide +kernel, by decide +kernel⟩
abbrev stcBadCondition : Stmt := clsMeth (topS 5) 0
theorem sccBadCondition : FnScope ["self"] ["self"] (defScope stcBadCondition) := ⟨rfl, rfl, rfl, by decide +kernel, rfl, by decide +kernel, by decide +kernel⟩
abbrev stcBadHand : Stmt := clsMeth (topS 3) 0
theorem sccBadHand : FnScope ["self"] ["self"] (defScope stcBadHand) := ⟨rfl, rfl, rfl, by decide +kernel, rfl, by decide +kernel, by decide +kernel⟩
abbrev stcBadNumber : Stmt := clsMeth (topS 8) 0
theorem sccBadNumber : FnScope ["self"] ["self"] (defScope stcBadNumber) := ⟨rfl, rfl, rfl, by decide +kernel, rfl, by decide +kernel, by decide +kernel⟩
abbrev stcBadOrder : Stmt := clsMeth (topS 11) 0
theorem sccBadOrder : FnScope ["self"] ["self"] (defScope stcBadOrder) := ⟨rfl, rfl, rfl, by decide +kernel, rfl, by decide +kernel, by decide +kernel⟩
abbrev stcBadPlace : Stmt := clsMeth (topS 10) 0
theorem sccBadPlace : FnScope ["self"] ["self"] (defScope stcBadPlace) := ⟨rfl, rfl, rfl, by decide +kernel, rfl, by decide +kernel, by decide +kernel⟩
abbrev stcNothingLeft : Stmt := clsMeth (topS 18) 0
theorem sccNothingLeft : FnScope ["self"] ["self"] (defScope stcNothingLeft) := ⟨rfl, rfl, rfl, by decide +kernel, rfl, by decide +kernel, by decide +kernel⟩
theorem all_mk {l : PySem.W.OpenLaw} {w : World} {K : PySem.W.Frag} {h : Heap} {mg : Str → Option Value} {fa : Addr} (X : K.In h) (G : h.Ns mainGlobals mg) (hfa : mg "law" = some (.ref fa))
    {cL tL cMissing cStandError cNothingLeft efBadCard efBadChange efBadCondition efBadHand efBadNumber efBadOrder efBadPlace efNothingLeft : Addr} {ocL eocBadCard ekvBadCard edcBadCard epmBadCard ecdBadCard ectBadCard eocBadChange ekvBadChange edcBadChange epmBadChange ecdBadChange ectBadChange eocBadCondition ekvBadCondition edcBadCondition epmBadCondition ecdBadCondition ectBadCondition eocBadHand ekvBadHand edcBadHand epmBadHand ecdBadHand ectBadHand eocBadNumber ekvBadNumber edcBadNumber epmBadNumber ecdBadNumber ectBadNumber eocBadOrder ekvBadOrder edcBadOrder epmBadOrder ecdBadOrder ectBadOrder eocBadPlace ekvBadPlace edcBadPlace epmBadPlace ecdBadPlace ectBadPlace eocNothingLeft ekvNothingLeft edcNothingLeft epmNothingLeft ecdNothingLeft ectNothingLeft : Value} {odL eodBadCard eanBadCard eodBadChange eanBadChange eodBadCondition eanBadCondition eodBadHand eanBadHand eodBadNumber eanBadNumber eodBadOrder eanBadOrder eodBadPlace eanBadPlace eodNothingLeft eanNothingLeft : (Option Addr)} {slL eslBadCard eslBadChange eslBadCondition eslBadHand eslBadNumber eslBadOrder eslBadPlace eslNothingLeft : (Array (Option Value))} {vsL : (Array Value)}
    {clCourse clRun clSheet clStand clTable fStand_m___init__ ffirst_look fturned fplain_look fis_number fis_word fis_list fform_of fis_term fis_part fis_condition kDis_condition fis_change kDis_change fis_writ kDis_writ fchanges_in fwrits_now fstanding fof_numbers fmarked fCourse_m___init__ fCourse_m_left_in fCourse_m_waits_in fCourse_m_count_marks fCourse_m_go_on fbegun_course ftold_looks fSheet_m___init__ kDSheet_m___init__ a_kw0Sheet_m___init__ fSheet_m_go_through fSheet_m_looks fSheet_m_steps fon_board fsheet_of fneed_thing fthere fTable_m___init__ kDTable_m___init__ fTable_m___eq__ fTable_m___len__ fTable_m___repr__ fTable_m_stand_so fTable_m_undo fTable_m_redo fTable_m_done fTable_m_busy fTable_m_sheet fTable_m_thing fTable_m_things dTTable_m_things fTable_m_lasting fTable_m_hands fTable_m_rounds f_law_bag f_law_get f_law_same f_law_ask f_law_now f_law_stands_so flaw a_PLACES da_ACTS da_CHANGES da_CONDITIONS da_LAYER_OF da_LEAVES da_LETS a_LETS_0 a_LETS_1 a_LETS_2 a_LETS_3 da_SIZES da_WAYS eBadCard eBadChange eBadCondition eBadHand eBadNumber eBadOrder eBadPlace eNothingLeft : Addr} {odStand_m___init__ anStand_m___init__ odfirst_look anfirst_look odturned anturned odplain_look anplain_look odis_number anis_number odis_word anis_word odis_list anis_list odform_of anform_of odis_term anis_term odis_part anis_part odis_condition anis_condition odis_change anis_change odis_writ anis_writ odchanges_in anchanges_in odwrits_now anwrits_now odstanding anstanding odof_numbers anof_numbers odmarked anmarked odCourse_m___init__ anCourse_m___init__ odCourse_m_left_in anCourse_m_left_in odCourse_m_waits_in anCourse_m_waits_in odCourse_m_count_marks anCourse_m_count_marks odCourse_m_go_on anCourse_m_go_on odbegun_course anbegun_course odtold_looks antold_looks odSheet_m___init__ anSheet_m___init__ o_kw0Sheet_m___init__ odSheet_m_go_through anSheet_m_go_through odSheet_m_looks anSheet_m_looks odSheet_m_steps anSheet_m_steps odon_board anon_board odsheet_of ansheet_of odneed_thing anneed_thing odthere anthere odTable_m___init__ anTable_m___init__ odTable_m___eq__ anTable_m___eq__ odTable_m___len__ anTable_m___len__ odTable_m___repr__ anTable_m___repr__ odTable_m_stand_so anTable_m_stand_so odTable_m_undo anTable_m_undo odTable_m_redo anTable_m_redo odTable_m_done anTable_m_done odTable_m_busy anTable_m_busy odTable_m_sheet anTable_m_sheet odTable_m_thing anTable_m_thing odTable_m_things anTable_m_things doTable_m_things odTable_m_lasting anTable_m_lasting odTable_m_hands anTable_m_hands odTable_m_rounds anTable_m_rounds od_law_bag an_law_bag od_law_get an_law_get od_law_same an_law_same od_law_ask an_law_ask od_law_now an_law_now od_law_stands_so an_law_stands_so odlaw anlaw o_PLACES o_LETS_0 o_LETS_1 o_LETS_2 o_LETS_3 : (Option Addr)} {slStand_m___init__ slfirst_look slturned slplain_look slis_number slis_word slis_list slform_of slis_term slis_part slis_condition slis_change slis_writ slchanges_in slwrits_now slstanding slof_numbers slmarked slCourse_m___init__ slCourse_m_left_in slCourse_m_waits_in slCourse_m_count_marks slCourse_m_go_on slbegun_course sltold_looks slSheet_m___init__ s_kw0Sheet_m___init__ slSheet_m_go_through slSheet_m_looks slSheet_m_steps slon_board slsheet_of slneed_thing slthere slTable_m___init__ slTable_m___eq__ slTable_m___len__ slTable_m___repr__ slTable_m_stand_so slTable_m_undo slTable_m_redo slTable_m_done slTable_m_busy slTable_m_sheet slTable_m_thing slTable_m_things dsTable_m_things slTable_m_lasting slTable_m_hands slTable_m_rounds sl_law_bag sl_law_get sl_law_same sl_law_ask sl_law_now sl_law_stands_so sllaw s_PLACES s_LETS_0 s_LETS_1 s_LETS_2 s_LETS_3 : (Array (Option Value))} {ocStand_m___init__ dcStand_m___init__ pmStand_m___init__ cdStand_m___init__ ctStand_m___init__ kVStand_m___init__ ocfirst_look dcfirst_look pmfirst_look cdfirst_look ctfirst_look kVfirst_look octurned dcturned pmturned cdturned ctturned kVturned ocplain_look dcplain_look pmplain_look cdplain_look ctplain_look kVplain_look ocis_number dcis_number pmis_number cdis_number ctis_number kVis_number ocis_word dcis_word pmis_word cdis_word ctis_word kVis_word ocis_list dcis_list pmis_list cdis_list ctis_list kVis_list ocform_of dcform_of pmform_of cdform_of ctform_of kVform_of ocis_term dcis_term pmis_term cdis_term ctis_term kVis_term ocis_part dcis_part pmis_part cdis_part ctis_part kVis_part ocis_condition dcis_condition pmis_condition cdis_condition ctis_condition ocis_change dcis_change pmis_change cdis_change ctis_change ocis_writ dcis_writ pmis_writ cdis_writ ctis_writ occhanges_in dcchanges_in pmchanges_in cdchanges_in ctchanges_in kVchanges_in ocwrits_now dcwrits_now pmwrits_now cdwrits_now ctwrits_now kVwrits_now ocstanding dcstanding pmstanding cdstanding ctstanding kVstanding ocof_numbers dcof_numbers pmof_numbers cdof_numbers ctof_numbers kVof_numbers ocmarked dcmarked pmmarked cdmarked ctmarked kVmarked ocCourse_m___init__ dcCourse_m___init__ pmCourse_m___init__ cdCourse_m___init__ ctCourse_m___init__ kVCourse_m___init__ ocCourse_m_left_in dcCourse_m_left_in pmCourse_m_left_in cdCourse_m_left_in ctCourse_m_left_in kVCourse_m_left_in ocCourse_m_waits_in dcCourse_m_waits_in pmCourse_m_waits_in cdCourse_m_waits_in ctCourse_m_waits_in kVCourse_m_waits_in ocCourse_m_count_marks dcCourse_m_count_marks pmCourse_m_count_marks cdCourse_m_count_marks ctCourse_m_count_marks kVCourse_m_count_marks ocCourse_m_go_on dcCourse_m_go_on pmCourse_m_go_on cdCourse_m_go_on ctCourse_m_go_on kVCourse_m_go_on ocbegun_course dcbegun_course pmbegun_course cdbegun_course ctbegun_course kVbegun_course octold_looks dctold_looks pmtold_looks cdtold_looks cttold_looks kVtold_looks ocSheet_m___init__ dcSheet_m___init__ pmSheet_m___init__ cdSheet_m___init__ ctSheet_m___init__ ocSheet_m_go_through dcSheet_m_go_through pmSheet_m_go_through cdSheet_m_go_through ctSheet_m_go_through kVSheet_m_go_through ocSheet_m_looks dcSheet_m_looks pmSheet_m_looks cdSheet_m_looks ctSheet_m_looks kVSheet_m_looks ocSheet_m_steps dcSheet_m_steps pmSheet_m_steps cdSheet_m_steps ctSheet_m_steps kVSheet_m_steps ocon_board dcon_board pmon_board cdon_board cton_board kVon_board ocsheet_of dcsheet_of pmsheet_of cdsheet_of ctsheet_of kVsheet_of ocneed_thing dcneed_thing pmneed_thing cdneed_thing ctneed_thing kVneed_thing octhere dcthere pmthere cdthere ctthere kVthere ocTable_m___init__ dcTable_m___init__ pmTable_m___init__ cdTable_m___init__ ctTable_m___init__ ocTable_m___eq__ dcTable_m___eq__ pmTable_m___eq__ cdTable_m___eq__ ctTable_m___eq__ kVTable_m___eq__ ocTable_m___len__ dcTable_m___len__ pmTable_m___len__ cdTable_m___len__ ctTable_m___len__ kVTable_m___len__ ocTable_m___repr__ dcTable_m___repr__ pmTable_m___repr__ cdTable_m___repr__ ctTable_m___repr__ kVTable_m___repr__ ocTable_m_stand_so dcTable_m_stand_so pmTable_m_stand_so cdTable_m_stand_so ctTable_m_stand_so kVTable_m_stand_so ocTable_m_undo dcTable_m_undo pmTable_m_undo cdTable_m_undo ctTable_m_undo kVTable_m_undo ocTable_m_redo dcTable_m_redo pmTable_m_redo cdTable_m_redo ctTable_m_redo kVTable_m_redo ocTable_m_done dcTable_m_done pmTable_m_done cdTable_m_done ctTable_m_done kVTable_m_done ocTable_m_busy dcTable_m_busy pmTable_m_busy cdTable_m_busy ctTable_m_busy kVTable_m_busy ocTable_m_sheet dcTable_m_sheet pmTable_m_sheet cdTable_m_sheet ctTable_m_sheet kVTable_m_sheet ocTable_m_thing dcTable_m_thing pmTable_m_thing cdTable_m_thing ctTable_m_thing kVTable_m_thing ocTable_m_things dcTable_m_things pmTable_m_things cdTable_m_things ctTable_m_things kVTable_m_things ocTable_m_lasting dcTable_m_lasting pmTable_m_lasting cdTable_m_lasting ctTable_m_lasting kVTable_m_lasting ocTable_m_hands dcTable_m_hands pmTable_m_hands cdTable_m_hands ctTable_m_hands kVTable_m_hands ocTable_m_rounds dcTable_m_rounds pmTable_m_rounds cdTable_m_rounds ctTable_m_rounds kVTable_m_rounds oc_law_bag dc_law_bag pm_law_bag cd_law_bag ct_law_bag kV_law_bag oc_law_get dc_law_get pm_law_get cd_law_get ct_law_get kV_law_get oc_law_same dc_law_same pm_law_same cd_law_same ct_law_same kV_law_same oc_law_ask dc_law_ask pm_law_ask cd_law_ask ct_law_ask kV_law_ask oc_law_now dc_law_now pm_law_now cd_law_now ct_law_now kV_law_now oc_law_stands_so dc_law_stands_so pm_law_stands_so cd_law_stands_so ct_law_stands_so kV_law_stands_so oclaw dclaw pmlaw  ctlaw kVlaw : Value} {t_kw0is_condition t_kw0Table_m___init__ t_df0Table_m_things t_CAME t_LAYERS t_LETTERS t_LONGEST t_MARKED t_MOST_CHANGES t_MOST_DEEP t_MOST_HANDS t_MOST_NUMBER t_MOST_ON_BOARD t_MOST_WORDS t_MOST_WRITS t_PLACES_0 t_PLACES_1 t_PLACES_2 t_ACTS_0 tk_ACTS_0 t_ACTS_1 tk_ACTS_1 t_ACTS_2 tk_ACTS_2 t_ACTS_3 tk_ACTS_3 t_CHANGES_0 tk_CHANGES_0 t_CHANGES_1 tk_CHANGES_1 t_CHANGES_2 tk_CHANGES_2 t_CHANGES_3 tk_CHANGES_3 t_CHANGES_4 tk_CHANGES_4 t_CHANGES_5 tk_CHANGES_5 t_CHANGES_6 tk_CHANGES_6 t_CHANGES_7 tk_CHANGES_7 t_CHANGES_8 tk_CHANGES_8 t_CHANGES_9 tk_CHANGES_9 t_CHANGES_10 tk_CHANGES_10 t_CHANGES_11 tk_CHANGES_11 t_CHANGES_12 tk_CHANGES_12 t_CHANGES_13 tk_CHANGES_13 t_CONDITIONS_0 tk_CONDITIONS_0 t_CONDITIONS_1 tk_CONDITIONS_1 t_CONDITIONS_2 tk_CONDITIONS_2 t_CONDITIONS_3 tk_CONDITIONS_3 t_CONDITIONS_4 tk_CONDITIONS_4 t_CONDITIONS_5 tk_CONDITIONS_5 t_CONDITIONS_6 tk_CONDITIONS_6 t_CONDITIONS_7 tk_CONDITIONS_7 t_CONDITIONS_8 tk_CONDITIONS_8 t_CONDITIONS_9 tk_CONDITIONS_9 t_LAYER_OF_0 tk_LAYER_OF_0 t_LAYER_OF_1 tk_LAYER_OF_1 t_LAYER_OF_2 tk_LAYER_OF_2 t_LAYER_OF_3 tk_LAYER_OF_3 t_LAYER_OF_4 tk_LAYER_OF_4 t_LAYER_OF_5 tk_LAYER_OF_5 t_LAYER_OF_6 tk_LAYER_OF_6 t_LAYER_OF_7 tk_LAYER_OF_7 t_LAYER_OF_8 tk_LAYER_OF_8 t_LAYER_OF_9 tk_LAYER_OF_9 t_LAYER_OF_10 tk_LAYER_OF_10 t_LAYER_OF_11 tk_LAYER_OF_11 t_LAYER_OF_12 tk_LAYER_OF_12 t_LAYER_OF_13 tk_LAYER_OF_13 t_LEAVES_0 tk_LEAVES_0 t_LEAVES_1 tk_LEAVES_1 t_LEAVES_2 tk_LEAVES_2 t_LETS_0_0 t_LETS_0_1 t_LETS_0_2 t_LETS_0_3 tk_LETS_0 t_LETS_1_0 tk_LETS_1 t_LETS_2_0 t_LETS_2_1 t_LETS_2_2 t_LETS_2_3 tk_LETS_2 t_LETS_3_0 t_LETS_3_1 t_LETS_3_2 tk_LETS_3 t_SIZES_0 tk_SIZES_0 t_SIZES_1 tk_SIZES_1 t_SIZES_2 tk_SIZES_2 t_SIZES_3 tk_SIZES_3 t_SIZES_4 tk_SIZES_4 t_SIZES_5 tk_SIZES_5 t_WAYS_0 tk_WAYS_0 t_WAYS_1 tk_WAYS_1 t_WAYS_2 tk_WAYS_2 t_WAYS_3 tk_WAYS_3 t_WAYS_4 tk_WAYS_4 t_WAYS_5 tk_WAYS_5 : Tok} {n_kw0Sheet_m___init__ dnTable_m_things n_PLACES dn_ACTS dn_CHANGES dn_CONDITIONS dn_LAYER_OF dn_LEAVES dn_LETS n_LETS_0 n_LETS_1 n_LETS_2 n_LETS_3 dn_SIZES dn_WAYS : Nat}
    (cg_Course : PySem.W.nsIn K mainGlobals "Course" = some (some (.ref clCourse)))
    (cp_Course : PySem.W.plainGet K clCourse Str.empty = true)
    (ch_Course : PySem.W.hasDictIn K clCourse = true)
    (co_Course : PySem.W.plainOver K clCourse = true)
    (cs_Course : PySem.W.findIn K (.ref clCourse) "__setattr__" = some (some (.builtin "object.__setattr__")))
    (cn_Course_begun : PySem.W.findIn K (.ref clCourse) "begun" = some none)
    (cn_Course_lasts : PySem.W.findIn K (.ref clCourse) "lasts" = some none)
    (cn_Course_marks : PySem.W.findIn K (.ref clCourse) "marks" = some none)
    (cn_Course_moments : PySem.W.findIn K (.ref clCourse) "moments" = some none)
    (cn_Course_stand : PySem.W.findIn K (.ref clCourse) "stand" = some none)
    (cn_Course_told_steps : PySem.W.findIn K (.ref clCourse) "told_steps" = some none)
    (cm_Course : PySem.W.makesIn K clCourse = true)
    (ck_Course : PySem.W.keepIn K (.ref clCourse) = true)
    (cg_Run : PySem.W.nsIn K mainGlobals "Run" = some (some (.ref clRun)))
    (cp_Run : PySem.W.plainGet K clRun Str.empty = true)
    (ch_Run : PySem.W.hasDictIn K clRun = true)
    (co_Run : PySem.W.plainOver K clRun = true)
    (cs_Run : PySem.W.findIn K (.ref clRun) "__setattr__" = some (some (.builtin "object.__setattr__")))
    (cn_Run_acts : PySem.W.findIn K (.ref clRun) "acts" = some none)
    (cn_Run_now : PySem.W.findIn K (.ref clRun) "now" = some none)
    (cn_Run_order : PySem.W.findIn K (.ref clRun) "order" = some none)
    (cn_Run_seen : PySem.W.findIn K (.ref clRun) "seen" = some none)
    (cn_Run_stack : PySem.W.findIn K (.ref clRun) "stack" = some none)
    (cn_Run_story : PySem.W.findIn K (.ref clRun) "story" = some none)
    (cg_Sheet : PySem.W.nsIn K mainGlobals "Sheet" = some (some (.ref clSheet)))
    (cp_Sheet : PySem.W.plainGet K clSheet Str.empty = true)
    (ch_Sheet : PySem.W.hasDictIn K clSheet = true)
    (co_Sheet : PySem.W.plainOver K clSheet = true)
    (cs_Sheet : PySem.W.findIn K (.ref clSheet) "__setattr__" = some (some (.builtin "object.__setattr__")))
    (cn_Sheet_stands : PySem.W.findIn K (.ref clSheet) "stands" = some none)
    (cn_Sheet_steps_done : PySem.W.findIn K (.ref clSheet) "steps_done" = some none)
    (cn_Sheet_waits_told : PySem.W.findIn K (.ref clSheet) "waits_told" = some none)
    (cm_Sheet : PySem.W.makesIn K clSheet = true)
    (ck_Sheet : PySem.W.keepIn K (.ref clSheet) = true)
    (cg_Stand : PySem.W.nsIn K mainGlobals "Stand" = some (some (.ref clStand)))
    (cp_Stand : PySem.W.plainGet K clStand Str.empty = true)
    (ch_Stand : PySem.W.hasDictIn K clStand = true)
    (co_Stand : PySem.W.plainOver K clStand = true)
    (cs_Stand : PySem.W.findIn K (.ref clStand) "__setattr__" = some (some (.builtin "object.__setattr__")))
    (cn_Stand_came : PySem.W.findIn K (.ref clStand) "came" = some none)
    (cn_Stand_shown : PySem.W.findIn K (.ref clStand) "shown" = some none)
    (cm_Stand : PySem.W.makesIn K clStand = true)
    (ck_Stand : PySem.W.keepIn K (.ref clStand) = true)
    (cg_Table : PySem.W.nsIn K mainGlobals "Table" = some (some (.ref clTable)))
    (cp_Table : PySem.W.plainGet K clTable Str.empty = true)
    (ch_Table : PySem.W.hasDictIn K clTable = true)
    (co_Table : PySem.W.plainOver K clTable = true)
    (cs_Table : PySem.W.findIn K (.ref clTable) "__setattr__" = some (some (.builtin "object.__setattr__")))
    (cn_Table_at_work : PySem.W.findIn K (.ref clTable) "at_work" = some none)
    (cn_Table_kept : PySem.W.findIn K (.ref clTable) "kept" = some none)
    (cn_Table_later : PySem.W.findIn K (.ref clTable) "later" = some none)
    (cn_Table_now : PySem.W.findIn K (.ref clTable) "now" = some none)
    (cn_Table_past : PySem.W.findIn K (.ref clTable) "past" = some none)
    (cm_Table : PySem.W.makesIn K clTable = true)
    (ck_Table : PySem.W.keepIn K (.ref clTable) = true)
    (aStand_m___init__ : PySem.W.findIn K (.ref clStand) "__init__" = some (some (.ref fStand_m___init__)))
    (iStand_m___init__ : PySem.W.isFn K (.ref fStand_m___init__) = true)
    (lStand_m___init__ : K.lookup fStand_m___init__ = some ⟨ocStand_m___init__, odStand_m___init__, .func (PySem.W.fnOf "__init__" "Stand.__init__" (defArgs stStand_m___init__) (defBody stStand_m___init__) (defScope stStand_m___init__) .none kVStand_m___init__ dcStand_m___init__ pmStand_m___init__ anStand_m___init__ cdStand_m___init__ ctStand_m___init__), slStand_m___init__⟩)
    (cStand_m___init__ : PySem.W.codeIn K cdStand_m___init__ "Stand.__init__" = true)
    (kStand_m___init__ : PySem.W.keepIn K (.ref fStand_m___init__) = true)
    (afirst_look : PySem.W.nsIn K mainGlobals "first_look" = some (some (.ref ffirst_look)))
    (lfirst_look : K.lookup ffirst_look = some ⟨ocfirst_look, odfirst_look, .func (PySem.W.fnOf "first_look" "first_look" (defArgs stfirst_look) (defBody stfirst_look) (defScope stfirst_look) .none kVfirst_look dcfirst_look pmfirst_look anfirst_look cdfirst_look ctfirst_look), slfirst_look⟩)
    (cfirst_look : PySem.W.codeIn K cdfirst_look "first_look" = true)
    (kfirst_look : PySem.W.keepIn K (.ref ffirst_look) = true)
    (aturned : PySem.W.nsIn K mainGlobals "turned" = some (some (.ref fturned)))
    (lturned : K.lookup fturned = some ⟨octurned, odturned, .func (PySem.W.fnOf "turned" "turned" (defArgs stturned) (defBody stturned) (defScope stturned) .none kVturned dcturned pmturned anturned cdturned ctturned), slturned⟩)
    (cturned : PySem.W.codeIn K cdturned "turned" = true)
    (kturned : PySem.W.keepIn K (.ref fturned) = true)
    (aplain_look : PySem.W.nsIn K mainGlobals "plain_look" = some (some (.ref fplain_look)))
    (lplain_look : K.lookup fplain_look = some ⟨ocplain_look, odplain_look, .func (PySem.W.fnOf "plain_look" "plain_look" (defArgs stplain_look) (defBody stplain_look) (defScope stplain_look) .none kVplain_look dcplain_look pmplain_look anplain_look cdplain_look ctplain_look), slplain_look⟩)
    (cplain_look : PySem.W.codeIn K cdplain_look "plain_look" = true)
    (kplain_look : PySem.W.keepIn K (.ref fplain_look) = true)
    (ais_number : PySem.W.nsIn K mainGlobals "is_number" = some (some (.ref fis_number)))
    (lis_number : K.lookup fis_number = some ⟨ocis_number, odis_number, .func (PySem.W.fnOf "is_number" "is_number" (defArgs stis_number) (defBody stis_number) (defScope stis_number) .none kVis_number dcis_number pmis_number anis_number cdis_number ctis_number), slis_number⟩)
    (cis_number : PySem.W.codeIn K cdis_number "is_number" = true)
    (kis_number : PySem.W.keepIn K (.ref fis_number) = true)
    (ais_word : PySem.W.nsIn K mainGlobals "is_word" = some (some (.ref fis_word)))
    (lis_word : K.lookup fis_word = some ⟨ocis_word, odis_word, .func (PySem.W.fnOf "is_word" "is_word" (defArgs stis_word) (defBody stis_word) (defScope stis_word) .none kVis_word dcis_word pmis_word anis_word cdis_word ctis_word), slis_word⟩)
    (cis_word : PySem.W.codeIn K cdis_word "is_word" = true)
    (kis_word : PySem.W.keepIn K (.ref fis_word) = true)
    (ais_list : PySem.W.nsIn K mainGlobals "is_list" = some (some (.ref fis_list)))
    (lis_list : K.lookup fis_list = some ⟨ocis_list, odis_list, .func (PySem.W.fnOf "is_list" "is_list" (defArgs stis_list) (defBody stis_list) (defScope stis_list) .none kVis_list dcis_list pmis_list anis_list cdis_list ctis_list), slis_list⟩)
    (cis_list : PySem.W.codeIn K cdis_list "is_list" = true)
    (kis_list : PySem.W.keepIn K (.ref fis_list) = true)
    (aform_of : PySem.W.nsIn K mainGlobals "form_of" = some (some (.ref fform_of)))
    (lform_of : K.lookup fform_of = some ⟨ocform_of, odform_of, .func (PySem.W.fnOf "form_of" "form_of" (defArgs stform_of) (defBody stform_of) (defScope stform_of) .none kVform_of dcform_of pmform_of anform_of cdform_of ctform_of), slform_of⟩)
    (cform_of : PySem.W.codeIn K cdform_of "form_of" = true)
    (kform_of : PySem.W.keepIn K (.ref fform_of) = true)
    (ais_term : PySem.W.nsIn K mainGlobals "is_term" = some (some (.ref fis_term)))
    (lis_term : K.lookup fis_term = some ⟨ocis_term, odis_term, .func (PySem.W.fnOf "is_term" "is_term" (defArgs stis_term) (defBody stis_term) (defScope stis_term) .none kVis_term dcis_term pmis_term anis_term cdis_term ctis_term), slis_term⟩)
    (cis_term : PySem.W.codeIn K cdis_term "is_term" = true)
    (kis_term : PySem.W.keepIn K (.ref fis_term) = true)
    (ais_part : PySem.W.nsIn K mainGlobals "is_part" = some (some (.ref fis_part)))
    (lis_part : K.lookup fis_part = some ⟨ocis_part, odis_part, .func (PySem.W.fnOf "is_part" "is_part" (defArgs stis_part) (defBody stis_part) (defScope stis_part) .none kVis_part dcis_part pmis_part anis_part cdis_part ctis_part), slis_part⟩)
    (cis_part : PySem.W.codeIn K cdis_part "is_part" = true)
    (kis_part : PySem.W.keepIn K (.ref fis_part) = true)
    (ais_condition : PySem.W.nsIn K mainGlobals "is_condition" = some (some (.ref fis_condition)))
    (lis_condition : K.lookup fis_condition = some ⟨ocis_condition, odis_condition, .func (PySem.W.fnOf "is_condition" "is_condition" (defArgs stis_condition) (defBody stis_condition) (defScope stis_condition) .none (.ref kDis_condition) dcis_condition pmis_condition anis_condition cdis_condition ctis_condition), slis_condition⟩)
    (cis_condition : PySem.W.codeIn K cdis_condition "is_condition" = true)
    (kis_condition : PySem.W.keepIn K (.ref fis_condition) = true)
    (d0is_condition : PySem.W.nsIn K kDis_condition "deep" = some (some (.int (4) t_kw0is_condition)))
    (ais_change : PySem.W.nsIn K mainGlobals "is_change" = some (some (.ref fis_change)))
    (lis_change : K.lookup fis_change = some ⟨ocis_change, odis_change, .func (PySem.W.fnOf "is_change" "is_change" (defArgs stis_change) (defBody stis_change) (defScope stis_change) .none (.ref kDis_change) dcis_change pmis_change anis_change cdis_change ctis_change), slis_change⟩)
    (cis_change : PySem.W.codeIn K cdis_change "is_change" = true)
    (kis_change : PySem.W.keepIn K (.ref fis_change) = true)
    (d0is_change : PySem.W.nsIn K kDis_change "plain" = some (some (.bool false)))
    (ais_writ : PySem.W.nsIn K mainGlobals "is_writ" = some (some (.ref fis_writ)))
    (lis_writ : K.lookup fis_writ = some ⟨ocis_writ, odis_writ, .func (PySem.W.fnOf "is_writ" "is_writ" (defArgs stis_writ) (defBody stis_writ) (defScope stis_writ) .none (.ref kDis_writ) dcis_writ pmis_writ anis_writ cdis_writ ctis_writ), slis_writ⟩)
    (cis_writ : PySem.W.codeIn K cdis_writ "is_writ" = true)
    (kis_writ : PySem.W.keepIn K (.ref fis_writ) = true)
    (d0is_writ : PySem.W.nsIn K kDis_writ "plain" = some (some (.bool false)))
    (achanges_in : PySem.W.nsIn K mainGlobals "changes_in" = some (some (.ref fchanges_in)))
    (lchanges_in : K.lookup fchanges_in = some ⟨occhanges_in, odchanges_in, .func (PySem.W.fnOf "changes_in" "changes_in" (defArgs stchanges_in) (defBody stchanges_in) (defScope stchanges_in) .none kVchanges_in dcchanges_in pmchanges_in anchanges_in cdchanges_in ctchanges_in), slchanges_in⟩)
    (cchanges_in : PySem.W.codeIn K cdchanges_in "changes_in" = true)
    (kchanges_in : PySem.W.keepIn K (.ref fchanges_in) = true)
    (awrits_now : PySem.W.nsIn K mainGlobals "writs_now" = some (some (.ref fwrits_now)))
    (lwrits_now : K.lookup fwrits_now = some ⟨ocwrits_now, odwrits_now, .func (PySem.W.fnOf "writs_now" "writs_now" (defArgs stwrits_now) (defBody stwrits_now) (defScope stwrits_now) .none kVwrits_now dcwrits_now pmwrits_now anwrits_now cdwrits_now ctwrits_now), slwrits_now⟩)
    (cwrits_now : PySem.W.codeIn K cdwrits_now "writs_now" = true)
    (kwrits_now : PySem.W.keepIn K (.ref fwrits_now) = true)
    (astanding : PySem.W.nsIn K mainGlobals "standing" = some (some (.ref fstanding)))
    (lstanding : K.lookup fstanding = some ⟨ocstanding, odstanding, .func (PySem.W.fnOf "standing" "standing" (defArgs ststanding) (defBody ststanding) (defScope ststanding) .none kVstanding dcstanding pmstanding anstanding cdstanding ctstanding), slstanding⟩)
    (cstanding : PySem.W.codeIn K cdstanding "standing" = true)
    (kstanding : PySem.W.keepIn K (.ref fstanding) = true)
    (aof_numbers : PySem.W.nsIn K mainGlobals "of_numbers" = some (some (.ref fof_numbers)))
    (lof_numbers : K.lookup fof_numbers = some ⟨ocof_numbers, odof_numbers, .func (PySem.W.fnOf "of_numbers" "of_numbers" (defArgs stof_numbers) (defBody stof_numbers) (defScope stof_numbers) .none kVof_numbers dcof_numbers pmof_numbers anof_numbers cdof_numbers ctof_numbers), slof_numbers⟩)
    (cof_numbers : PySem.W.codeIn K cdof_numbers "of_numbers" = true)
    (kof_numbers : PySem.W.keepIn K (.ref fof_numbers) = true)
    (amarked : PySem.W.nsIn K mainGlobals "marked" = some (some (.ref fmarked)))
    (lmarked : K.lookup fmarked = some ⟨ocmarked, odmarked, .func (PySem.W.fnOf "marked" "marked" (defArgs stmarked) (defBody stmarked) (defScope stmarked) .none kVmarked dcmarked pmmarked anmarked cdmarked ctmarked), slmarked⟩)
    (cmarked : PySem.W.codeIn K cdmarked "marked" = true)
    (kmarked : PySem.W.keepIn K (.ref fmarked) = true)
    (aCourse_m___init__ : PySem.W.findIn K (.ref clCourse) "__init__" = some (some (.ref fCourse_m___init__)))
    (iCourse_m___init__ : PySem.W.isFn K (.ref fCourse_m___init__) = true)
    (lCourse_m___init__ : K.lookup fCourse_m___init__ = some ⟨ocCourse_m___init__, odCourse_m___init__, .func (PySem.W.fnOf "__init__" "Course.__init__" (defArgs stCourse_m___init__) (defBody stCourse_m___init__) (defScope stCourse_m___init__) .none kVCourse_m___init__ dcCourse_m___init__ pmCourse_m___init__ anCourse_m___init__ cdCourse_m___init__ ctCourse_m___init__), slCourse_m___init__⟩)
    (cCourse_m___init__ : PySem.W.codeIn K cdCourse_m___init__ "Course.__init__" = true)
    (kCourse_m___init__ : PySem.W.keepIn K (.ref fCourse_m___init__) = true)
    (aCourse_m_left_in : PySem.W.findIn K (.ref clCourse) "left_in" = some (some (.ref fCourse_m_left_in)))
    (iCourse_m_left_in : PySem.W.isFn K (.ref fCourse_m_left_in) = true)
    (lCourse_m_left_in : K.lookup fCourse_m_left_in = some ⟨ocCourse_m_left_in, odCourse_m_left_in, .func (PySem.W.fnOf "left_in" "Course.left_in" (defArgs stCourse_m_left_in) (defBody stCourse_m_left_in) (defScope stCourse_m_left_in) .none kVCourse_m_left_in dcCourse_m_left_in pmCourse_m_left_in anCourse_m_left_in cdCourse_m_left_in ctCourse_m_left_in), slCourse_m_left_in⟩)
    (cCourse_m_left_in : PySem.W.codeIn K cdCourse_m_left_in "Course.left_in" = true)
    (kCourse_m_left_in : PySem.W.keepIn K (.ref fCourse_m_left_in) = true)
    (aCourse_m_waits_in : PySem.W.findIn K (.ref clCourse) "waits_in" = some (some (.ref fCourse_m_waits_in)))
    (iCourse_m_waits_in : PySem.W.isFn K (.ref fCourse_m_waits_in) = true)
    (lCourse_m_waits_in : K.lookup fCourse_m_waits_in = some ⟨ocCourse_m_waits_in, odCourse_m_waits_in, .func (PySem.W.fnOf "waits_in" "Course.waits_in" (defArgs stCourse_m_waits_in) (defBody stCourse_m_waits_in) (defScope stCourse_m_waits_in) .none kVCourse_m_waits_in dcCourse_m_waits_in pmCourse_m_waits_in anCourse_m_waits_in cdCourse_m_waits_in ctCourse_m_waits_in), slCourse_m_waits_in⟩)
    (cCourse_m_waits_in : PySem.W.codeIn K cdCourse_m_waits_in "Course.waits_in" = true)
    (kCourse_m_waits_in : PySem.W.keepIn K (.ref fCourse_m_waits_in) = true)
    (aCourse_m_count_marks : PySem.W.findIn K (.ref clCourse) "count_marks" = some (some (.ref fCourse_m_count_marks)))
    (iCourse_m_count_marks : PySem.W.isFn K (.ref fCourse_m_count_marks) = true)
    (lCourse_m_count_marks : K.lookup fCourse_m_count_marks = some ⟨ocCourse_m_count_marks, odCourse_m_count_marks, .func (PySem.W.fnOf "count_marks" "Course.count_marks" (defArgs stCourse_m_count_marks) (defBody stCourse_m_count_marks) (defScope stCourse_m_count_marks) .none kVCourse_m_count_marks dcCourse_m_count_marks pmCourse_m_count_marks anCourse_m_count_marks cdCourse_m_count_marks ctCourse_m_count_marks), slCourse_m_count_marks⟩)
    (cCourse_m_count_marks : PySem.W.codeIn K cdCourse_m_count_marks "Course.count_marks" = true)
    (kCourse_m_count_marks : PySem.W.keepIn K (.ref fCourse_m_count_marks) = true)
    (aCourse_m_go_on : PySem.W.findIn K (.ref clCourse) "go_on" = some (some (.ref fCourse_m_go_on)))
    (iCourse_m_go_on : PySem.W.isFn K (.ref fCourse_m_go_on) = true)
    (lCourse_m_go_on : K.lookup fCourse_m_go_on = some ⟨ocCourse_m_go_on, odCourse_m_go_on, .func (PySem.W.fnOf "go_on" "Course.go_on" (defArgs stCourse_m_go_on) (defBody stCourse_m_go_on) (defScope stCourse_m_go_on) .none kVCourse_m_go_on dcCourse_m_go_on pmCourse_m_go_on anCourse_m_go_on cdCourse_m_go_on ctCourse_m_go_on), slCourse_m_go_on⟩)
    (cCourse_m_go_on : PySem.W.codeIn K cdCourse_m_go_on "Course.go_on" = true)
    (kCourse_m_go_on : PySem.W.keepIn K (.ref fCourse_m_go_on) = true)
    (abegun_course : PySem.W.nsIn K mainGlobals "begun_course" = some (some (.ref fbegun_course)))
    (lbegun_course : K.lookup fbegun_course = some ⟨ocbegun_course, odbegun_course, .func (PySem.W.fnOf "begun_course" "begun_course" (defArgs stbegun_course) (defBody stbegun_course) (defScope stbegun_course) .none kVbegun_course dcbegun_course pmbegun_course anbegun_course cdbegun_course ctbegun_course), slbegun_course⟩)
    (cbegun_course : PySem.W.codeIn K cdbegun_course "begun_course" = true)
    (kbegun_course : PySem.W.keepIn K (.ref fbegun_course) = true)
    (atold_looks : PySem.W.nsIn K mainGlobals "told_looks" = some (some (.ref ftold_looks)))
    (ltold_looks : K.lookup ftold_looks = some ⟨octold_looks, odtold_looks, .func (PySem.W.fnOf "told_looks" "told_looks" (defArgs sttold_looks) (defBody sttold_looks) (defScope sttold_looks) .none kVtold_looks dctold_looks pmtold_looks antold_looks cdtold_looks cttold_looks), sltold_looks⟩)
    (ctold_looks : PySem.W.codeIn K cdtold_looks "told_looks" = true)
    (ktold_looks : PySem.W.keepIn K (.ref ftold_looks) = true)
    (aSheet_m___init__ : PySem.W.findIn K (.ref clSheet) "__init__" = some (some (.ref fSheet_m___init__)))
    (iSheet_m___init__ : PySem.W.isFn K (.ref fSheet_m___init__) = true)
    (lSheet_m___init__ : K.lookup fSheet_m___init__ = some ⟨ocSheet_m___init__, odSheet_m___init__, .func (PySem.W.fnOf "__init__" "Sheet.__init__" (defArgs stSheet_m___init__) (defBody stSheet_m___init__) (defScope stSheet_m___init__) .none (.ref kDSheet_m___init__) dcSheet_m___init__ pmSheet_m___init__ anSheet_m___init__ cdSheet_m___init__ ctSheet_m___init__), slSheet_m___init__⟩)
    (cSheet_m___init__ : PySem.W.codeIn K cdSheet_m___init__ "Sheet.__init__" = true)
    (kSheet_m___init__ : PySem.W.keepIn K (.ref fSheet_m___init__) = true)
    (d0Sheet_m___init__ : PySem.W.nsIn K kDSheet_m___init__ "lasting" = some (some (.ref a_kw0Sheet_m___init__)))
    (z_kw0Sheet_m___init__ : K.lookup a_kw0Sheet_m___init__ = some ⟨.type "tuple", o_kw0Sheet_m___init__, .seq #[] n_kw0Sheet_m___init__, s_kw0Sheet_m___init__⟩)
    (aSheet_m_go_through : PySem.W.findIn K (.ref clSheet) "go_through" = some (some (.ref fSheet_m_go_through)))
    (iSheet_m_go_through : PySem.W.isFn K (.ref fSheet_m_go_through) = true)
    (lSheet_m_go_through : K.lookup fSheet_m_go_through = some ⟨ocSheet_m_go_through, odSheet_m_go_through, .func (PySem.W.fnOf "go_through" "Sheet.go_through" (defArgs stSheet_m_go_through) (defBody stSheet_m_go_through) (defScope stSheet_m_go_through) .none kVSheet_m_go_through dcSheet_m_go_through pmSheet_m_go_through anSheet_m_go_through cdSheet_m_go_through ctSheet_m_go_through), slSheet_m_go_through⟩)
    (cSheet_m_go_through : PySem.W.codeIn K cdSheet_m_go_through "Sheet.go_through" = true)
    (kSheet_m_go_through : PySem.W.keepIn K (.ref fSheet_m_go_through) = true)
    (aSheet_m_looks : PySem.W.findIn K (.ref clSheet) "looks" = some (some (.ref fSheet_m_looks)))
    (iSheet_m_looks : PySem.W.isFn K (.ref fSheet_m_looks) = true)
    (lSheet_m_looks : K.lookup fSheet_m_looks = some ⟨ocSheet_m_looks, odSheet_m_looks, .func (PySem.W.fnOf "looks" "Sheet.looks" (defArgs stSheet_m_looks) (defBody stSheet_m_looks) (defScope stSheet_m_looks) .none kVSheet_m_looks dcSheet_m_looks pmSheet_m_looks anSheet_m_looks cdSheet_m_looks ctSheet_m_looks), slSheet_m_looks⟩)
    (cSheet_m_looks : PySem.W.codeIn K cdSheet_m_looks "Sheet.looks" = true)
    (kSheet_m_looks : PySem.W.keepIn K (.ref fSheet_m_looks) = true)
    (aSheet_m_steps : PySem.W.findIn K (.ref clSheet) "steps" = some (some (.ref fSheet_m_steps)))
    (iSheet_m_steps : PySem.W.isFn K (.ref fSheet_m_steps) = true)
    (lSheet_m_steps : K.lookup fSheet_m_steps = some ⟨ocSheet_m_steps, odSheet_m_steps, .func (PySem.W.fnOf "steps" "Sheet.steps" (defArgs stSheet_m_steps) (defBody stSheet_m_steps) (defScope stSheet_m_steps) .none kVSheet_m_steps dcSheet_m_steps pmSheet_m_steps anSheet_m_steps cdSheet_m_steps ctSheet_m_steps), slSheet_m_steps⟩)
    (cSheet_m_steps : PySem.W.codeIn K cdSheet_m_steps "Sheet.steps" = true)
    (kSheet_m_steps : PySem.W.keepIn K (.ref fSheet_m_steps) = true)
    (aon_board : PySem.W.nsIn K mainGlobals "on_board" = some (some (.ref fon_board)))
    (lon_board : K.lookup fon_board = some ⟨ocon_board, odon_board, .func (PySem.W.fnOf "on_board" "on_board" (defArgs ston_board) (defBody ston_board) (defScope ston_board) .none kVon_board dcon_board pmon_board anon_board cdon_board cton_board), slon_board⟩)
    (con_board : PySem.W.codeIn K cdon_board "on_board" = true)
    (kon_board : PySem.W.keepIn K (.ref fon_board) = true)
    (asheet_of : PySem.W.nsIn K mainGlobals "sheet_of" = some (some (.ref fsheet_of)))
    (lsheet_of : K.lookup fsheet_of = some ⟨ocsheet_of, odsheet_of, .func (PySem.W.fnOf "sheet_of" "sheet_of" (defArgs stsheet_of) (defBody stsheet_of) (defScope stsheet_of) .none kVsheet_of dcsheet_of pmsheet_of ansheet_of cdsheet_of ctsheet_of), slsheet_of⟩)
    (csheet_of : PySem.W.codeIn K cdsheet_of "sheet_of" = true)
    (ksheet_of : PySem.W.keepIn K (.ref fsheet_of) = true)
    (aneed_thing : PySem.W.nsIn K mainGlobals "need_thing" = some (some (.ref fneed_thing)))
    (lneed_thing : K.lookup fneed_thing = some ⟨ocneed_thing, odneed_thing, .func (PySem.W.fnOf "need_thing" "need_thing" (defArgs stneed_thing) (defBody stneed_thing) (defScope stneed_thing) .none kVneed_thing dcneed_thing pmneed_thing anneed_thing cdneed_thing ctneed_thing), slneed_thing⟩)
    (cneed_thing : PySem.W.codeIn K cdneed_thing "need_thing" = true)
    (kneed_thing : PySem.W.keepIn K (.ref fneed_thing) = true)
    (athere : PySem.W.nsIn K mainGlobals "there" = some (some (.ref fthere)))
    (lthere : K.lookup fthere = some ⟨octhere, odthere, .func (PySem.W.fnOf "there" "there" (defArgs stthere) (defBody stthere) (defScope stthere) .none kVthere dcthere pmthere anthere cdthere ctthere), slthere⟩)
    (cthere : PySem.W.codeIn K cdthere "there" = true)
    (kthere : PySem.W.keepIn K (.ref fthere) = true)
    (aTable_m___init__ : PySem.W.findIn K (.ref clTable) "__init__" = some (some (.ref fTable_m___init__)))
    (iTable_m___init__ : PySem.W.isFn K (.ref fTable_m___init__) = true)
    (lTable_m___init__ : K.lookup fTable_m___init__ = some ⟨ocTable_m___init__, odTable_m___init__, .func (PySem.W.fnOf "__init__" "Table.__init__" (defArgs stTable_m___init__) (defBody stTable_m___init__) (defScope stTable_m___init__) .none (.ref kDTable_m___init__) dcTable_m___init__ pmTable_m___init__ anTable_m___init__ cdTable_m___init__ ctTable_m___init__), slTable_m___init__⟩)
    (cTable_m___init__ : PySem.W.codeIn K cdTable_m___init__ "Table.__init__" = true)
    (kTable_m___init__ : PySem.W.keepIn K (.ref fTable_m___init__) = true)
    (d0Table_m___init__ : PySem.W.nsIn K kDTable_m___init__ "hands" = some (some (.int (2) t_kw0Table_m___init__)))
    (aTable_m___eq__ : PySem.W.findIn K (.ref clTable) "__eq__" = some (some (.ref fTable_m___eq__)))
    (iTable_m___eq__ : PySem.W.isFn K (.ref fTable_m___eq__) = true)
    (lTable_m___eq__ : K.lookup fTable_m___eq__ = some ⟨ocTable_m___eq__, odTable_m___eq__, .func (PySem.W.fnOf "__eq__" "Table.__eq__" (defArgs stTable_m___eq__) (defBody stTable_m___eq__) (defScope stTable_m___eq__) .none kVTable_m___eq__ dcTable_m___eq__ pmTable_m___eq__ anTable_m___eq__ cdTable_m___eq__ ctTable_m___eq__), slTable_m___eq__⟩)
    (cTable_m___eq__ : PySem.W.codeIn K cdTable_m___eq__ "Table.__eq__" = true)
    (kTable_m___eq__ : PySem.W.keepIn K (.ref fTable_m___eq__) = true)
    (aTable_m___len__ : PySem.W.findIn K (.ref clTable) "__len__" = some (some (.ref fTable_m___len__)))
    (iTable_m___len__ : PySem.W.isFn K (.ref fTable_m___len__) = true)
    (lTable_m___len__ : K.lookup fTable_m___len__ = some ⟨ocTable_m___len__, odTable_m___len__, .func (PySem.W.fnOf "__len__" "Table.__len__" (defArgs stTable_m___len__) (defBody stTable_m___len__) (defScope stTable_m___len__) .none kVTable_m___len__ dcTable_m___len__ pmTable_m___len__ anTable_m___len__ cdTable_m___len__ ctTable_m___len__), slTable_m___len__⟩)
    (cTable_m___len__ : PySem.W.codeIn K cdTable_m___len__ "Table.__len__" = true)
    (kTable_m___len__ : PySem.W.keepIn K (.ref fTable_m___len__) = true)
    (aTable_m___repr__ : PySem.W.findIn K (.ref clTable) "__repr__" = some (some (.ref fTable_m___repr__)))
    (iTable_m___repr__ : PySem.W.isFn K (.ref fTable_m___repr__) = true)
    (lTable_m___repr__ : K.lookup fTable_m___repr__ = some ⟨ocTable_m___repr__, odTable_m___repr__, .func (PySem.W.fnOf "__repr__" "Table.__repr__" (defArgs stTable_m___repr__) (defBody stTable_m___repr__) (defScope stTable_m___repr__) .none kVTable_m___repr__ dcTable_m___repr__ pmTable_m___repr__ anTable_m___repr__ cdTable_m___repr__ ctTable_m___repr__), slTable_m___repr__⟩)
    (cTable_m___repr__ : PySem.W.codeIn K cdTable_m___repr__ "Table.__repr__" = true)
    (kTable_m___repr__ : PySem.W.keepIn K (.ref fTable_m___repr__) = true)
    (aTable_m_stand_so : PySem.W.findIn K (.ref clTable) "stand_so" = some (some (.ref fTable_m_stand_so)))
    (iTable_m_stand_so : PySem.W.isFn K (.ref fTable_m_stand_so) = true)
    (lTable_m_stand_so : K.lookup fTable_m_stand_so = some ⟨ocTable_m_stand_so, odTable_m_stand_so, .func (PySem.W.fnOf "stand_so" "Table.stand_so" (defArgs stTable_m_stand_so) (defBody stTable_m_stand_so) (defScope stTable_m_stand_so) .none kVTable_m_stand_so dcTable_m_stand_so pmTable_m_stand_so anTable_m_stand_so cdTable_m_stand_so ctTable_m_stand_so), slTable_m_stand_so⟩)
    (cTable_m_stand_so : PySem.W.codeIn K cdTable_m_stand_so "Table.stand_so" = true)
    (kTable_m_stand_so : PySem.W.keepIn K (.ref fTable_m_stand_so) = true)
    (aTable_m_undo : PySem.W.findIn K (.ref clTable) "undo" = some (some (.ref fTable_m_undo)))
    (iTable_m_undo : PySem.W.isFn K (.ref fTable_m_undo) = true)
    (lTable_m_undo : K.lookup fTable_m_undo = some ⟨ocTable_m_undo, odTable_m_undo, .func (PySem.W.fnOf "undo" "Table.undo" (defArgs stTable_m_undo) (defBody stTable_m_undo) (defScope stTable_m_undo) .none kVTable_m_undo dcTable_m_undo pmTable_m_undo anTable_m_undo cdTable_m_undo ctTable_m_undo), slTable_m_undo⟩)
    (cTable_m_undo : PySem.W.codeIn K cdTable_m_undo "Table.undo" = true)
    (kTable_m_undo : PySem.W.keepIn K (.ref fTable_m_undo) = true)
    (aTable_m_redo : PySem.W.findIn K (.ref clTable) "redo" = some (some (.ref fTable_m_redo)))
    (iTable_m_redo : PySem.W.isFn K (.ref fTable_m_redo) = true)
    (lTable_m_redo : K.lookup fTable_m_redo = some ⟨ocTable_m_redo, odTable_m_redo, .func (PySem.W.fnOf "redo" "Table.redo" (defArgs stTable_m_redo) (defBody stTable_m_redo) (defScope stTable_m_redo) .none kVTable_m_redo dcTable_m_redo pmTable_m_redo anTable_m_redo cdTable_m_redo ctTable_m_redo), slTable_m_redo⟩)
    (cTable_m_redo : PySem.W.codeIn K cdTable_m_redo "Table.redo" = true)
    (kTable_m_redo : PySem.W.keepIn K (.ref fTable_m_redo) = true)
    (aTable_m_done : PySem.W.findIn K (.ref clTable) "done" = some (some (.ref fTable_m_done)))
    (iTable_m_done : PySem.W.isFn K (.ref fTable_m_done) = true)
    (lTable_m_done : K.lookup fTable_m_done = some ⟨ocTable_m_done, odTable_m_done, .func (PySem.W.fnOf "done" "Table.done" (defArgs stTable_m_done) (defBody stTable_m_done) (defScope stTable_m_done) .none kVTable_m_done dcTable_m_done pmTable_m_done anTable_m_done cdTable_m_done ctTable_m_done), slTable_m_done⟩)
    (cTable_m_done : PySem.W.codeIn K cdTable_m_done "Table.done" = true)
    (kTable_m_done : PySem.W.keepIn K (.ref fTable_m_done) = true)
    (aTable_m_busy : PySem.W.findIn K (.ref clTable) "busy" = some (some (.ref fTable_m_busy)))
    (iTable_m_busy : PySem.W.isFn K (.ref fTable_m_busy) = true)
    (lTable_m_busy : K.lookup fTable_m_busy = some ⟨ocTable_m_busy, odTable_m_busy, .func (PySem.W.fnOf "busy" "Table.busy" (defArgs stTable_m_busy) (defBody stTable_m_busy) (defScope stTable_m_busy) .none kVTable_m_busy dcTable_m_busy pmTable_m_busy anTable_m_busy cdTable_m_busy ctTable_m_busy), slTable_m_busy⟩)
    (cTable_m_busy : PySem.W.codeIn K cdTable_m_busy "Table.busy" = true)
    (kTable_m_busy : PySem.W.keepIn K (.ref fTable_m_busy) = true)
    (aTable_m_sheet : PySem.W.findIn K (.ref clTable) "sheet" = some (some (.ref fTable_m_sheet)))
    (iTable_m_sheet : PySem.W.isFn K (.ref fTable_m_sheet) = true)
    (lTable_m_sheet : K.lookup fTable_m_sheet = some ⟨ocTable_m_sheet, odTable_m_sheet, .func (PySem.W.fnOf "sheet" "Table.sheet" (defArgs stTable_m_sheet) (defBody stTable_m_sheet) (defScope stTable_m_sheet) .none kVTable_m_sheet dcTable_m_sheet pmTable_m_sheet anTable_m_sheet cdTable_m_sheet ctTable_m_sheet), slTable_m_sheet⟩)
    (cTable_m_sheet : PySem.W.codeIn K cdTable_m_sheet "Table.sheet" = true)
    (kTable_m_sheet : PySem.W.keepIn K (.ref fTable_m_sheet) = true)
    (aTable_m_thing : PySem.W.findIn K (.ref clTable) "thing" = some (some (.ref fTable_m_thing)))
    (iTable_m_thing : PySem.W.isFn K (.ref fTable_m_thing) = true)
    (lTable_m_thing : K.lookup fTable_m_thing = some ⟨ocTable_m_thing, odTable_m_thing, .func (PySem.W.fnOf "thing" "Table.thing" (defArgs stTable_m_thing) (defBody stTable_m_thing) (defScope stTable_m_thing) .none kVTable_m_thing dcTable_m_thing pmTable_m_thing anTable_m_thing cdTable_m_thing ctTable_m_thing), slTable_m_thing⟩)
    (cTable_m_thing : PySem.W.codeIn K cdTable_m_thing "Table.thing" = true)
    (kTable_m_thing : PySem.W.keepIn K (.ref fTable_m_thing) = true)
    (aTable_m_things : PySem.W.findIn K (.ref clTable) "things" = some (some (.ref fTable_m_things)))
    (iTable_m_things : PySem.W.isFn K (.ref fTable_m_things) = true)
    (lTable_m_things : K.lookup fTable_m_things = some ⟨ocTable_m_things, odTable_m_things, .func (PySem.W.fnOf "things" "Table.things" (defArgs stTable_m_things) (defBody stTable_m_things) (defScope stTable_m_things) (.ref dTTable_m_things) kVTable_m_things dcTable_m_things pmTable_m_things anTable_m_things cdTable_m_things ctTable_m_things), slTable_m_things⟩)
    (cTable_m_things : PySem.W.codeIn K cdTable_m_things "Table.things" = true)
    (kTable_m_things : PySem.W.keepIn K (.ref fTable_m_things) = true)
    (dtTable_m_things : K.lookup dTTable_m_things = some ⟨.type "tuple", doTable_m_things, .seq #[.str "board" t_df0Table_m_things] dnTable_m_things, dsTable_m_things⟩)
    (aTable_m_lasting : PySem.W.findIn K (.ref clTable) "lasting" = some (some (.ref fTable_m_lasting)))
    (iTable_m_lasting : PySem.W.isFn K (.ref fTable_m_lasting) = true)
    (lTable_m_lasting : K.lookup fTable_m_lasting = some ⟨ocTable_m_lasting, odTable_m_lasting, .func (PySem.W.fnOf "lasting" "Table.lasting" (defArgs stTable_m_lasting) (defBody stTable_m_lasting) (defScope stTable_m_lasting) .none kVTable_m_lasting dcTable_m_lasting pmTable_m_lasting anTable_m_lasting cdTable_m_lasting ctTable_m_lasting), slTable_m_lasting⟩)
    (cTable_m_lasting : PySem.W.codeIn K cdTable_m_lasting "Table.lasting" = true)
    (kTable_m_lasting : PySem.W.keepIn K (.ref fTable_m_lasting) = true)
    (aTable_m_hands : PySem.W.findIn K (.ref clTable) "hands" = some (some (.ref fTable_m_hands)))
    (iTable_m_hands : PySem.W.isFn K (.ref fTable_m_hands) = true)
    (lTable_m_hands : K.lookup fTable_m_hands = some ⟨ocTable_m_hands, odTable_m_hands, .func (PySem.W.fnOf "hands" "Table.hands" (defArgs stTable_m_hands) (defBody stTable_m_hands) (defScope stTable_m_hands) .none kVTable_m_hands dcTable_m_hands pmTable_m_hands anTable_m_hands cdTable_m_hands ctTable_m_hands), slTable_m_hands⟩)
    (cTable_m_hands : PySem.W.codeIn K cdTable_m_hands "Table.hands" = true)
    (kTable_m_hands : PySem.W.keepIn K (.ref fTable_m_hands) = true)
    (aTable_m_rounds : PySem.W.findIn K (.ref clTable) "rounds" = some (some (.ref fTable_m_rounds)))
    (iTable_m_rounds : PySem.W.isFn K (.ref fTable_m_rounds) = true)
    (lTable_m_rounds : K.lookup fTable_m_rounds = some ⟨ocTable_m_rounds, odTable_m_rounds, .func (PySem.W.fnOf "rounds" "Table.rounds" (defArgs stTable_m_rounds) (defBody stTable_m_rounds) (defScope stTable_m_rounds) .none kVTable_m_rounds dcTable_m_rounds pmTable_m_rounds anTable_m_rounds cdTable_m_rounds ctTable_m_rounds), slTable_m_rounds⟩)
    (cTable_m_rounds : PySem.W.codeIn K cdTable_m_rounds "Table.rounds" = true)
    (kTable_m_rounds : PySem.W.keepIn K (.ref fTable_m_rounds) = true)
    (a_law_bag : PySem.W.nsIn K mainGlobals "_law_bag" = some (some (.ref f_law_bag)))
    (l_law_bag : K.lookup f_law_bag = some ⟨oc_law_bag, od_law_bag, .func (PySem.W.fnOf "_law_bag" "_law_bag" (defArgs st_law_bag) (defBody st_law_bag) (defScope st_law_bag) .none kV_law_bag dc_law_bag pm_law_bag an_law_bag cd_law_bag ct_law_bag), sl_law_bag⟩)
    (c_law_bag : PySem.W.codeIn K cd_law_bag "_law_bag" = true)
    (k_law_bag : PySem.W.keepIn K (.ref f_law_bag) = true)
    (a_law_get : PySem.W.nsIn K mainGlobals "_law_get" = some (some (.ref f_law_get)))
    (l_law_get : K.lookup f_law_get = some ⟨oc_law_get, od_law_get, .func (PySem.W.fnOf "_law_get" "_law_get" (defArgs st_law_get) (defBody st_law_get) (defScope st_law_get) .none kV_law_get dc_law_get pm_law_get an_law_get cd_law_get ct_law_get), sl_law_get⟩)
    (c_law_get : PySem.W.codeIn K cd_law_get "_law_get" = true)
    (k_law_get : PySem.W.keepIn K (.ref f_law_get) = true)
    (a_law_same : PySem.W.nsIn K mainGlobals "_law_same" = some (some (.ref f_law_same)))
    (l_law_same : K.lookup f_law_same = some ⟨oc_law_same, od_law_same, .func (PySem.W.fnOf "_law_same" "_law_same" (defArgs st_law_same) (defBody st_law_same) (defScope st_law_same) .none kV_law_same dc_law_same pm_law_same an_law_same cd_law_same ct_law_same), sl_law_same⟩)
    (c_law_same : PySem.W.codeIn K cd_law_same "_law_same" = true)
    (k_law_same : PySem.W.keepIn K (.ref f_law_same) = true)
    (a_law_ask : PySem.W.nsIn K mainGlobals "_law_ask" = some (some (.ref f_law_ask)))
    (l_law_ask : K.lookup f_law_ask = some ⟨oc_law_ask, od_law_ask, .func (PySem.W.fnOf "_law_ask" "_law_ask" (defArgs st_law_ask) (defBody st_law_ask) (defScope st_law_ask) .none kV_law_ask dc_law_ask pm_law_ask an_law_ask cd_law_ask ct_law_ask), sl_law_ask⟩)
    (c_law_ask : PySem.W.codeIn K cd_law_ask "_law_ask" = true)
    (k_law_ask : PySem.W.keepIn K (.ref f_law_ask) = true)
    (a_law_now : PySem.W.nsIn K mainGlobals "_law_now" = some (some (.ref f_law_now)))
    (l_law_now : K.lookup f_law_now = some ⟨oc_law_now, od_law_now, .func (PySem.W.fnOf "_law_now" "_law_now" (defArgs st_law_now) (defBody st_law_now) (defScope st_law_now) .none kV_law_now dc_law_now pm_law_now an_law_now cd_law_now ct_law_now), sl_law_now⟩)
    (c_law_now : PySem.W.codeIn K cd_law_now "_law_now" = true)
    (k_law_now : PySem.W.keepIn K (.ref f_law_now) = true)
    (a_law_stands_so : PySem.W.nsIn K mainGlobals "_law_stands_so" = some (some (.ref f_law_stands_so)))
    (l_law_stands_so : K.lookup f_law_stands_so = some ⟨oc_law_stands_so, od_law_stands_so, .func (PySem.W.fnOf "_law_stands_so" "_law_stands_so" (defArgs st_law_stands_so) (defBody st_law_stands_so) (defScope st_law_stands_so) .none kV_law_stands_so dc_law_stands_so pm_law_stands_so an_law_stands_so cd_law_stands_so ct_law_stands_so), sl_law_stands_so⟩)
    (c_law_stands_so : PySem.W.codeIn K cd_law_stands_so "_law_stands_so" = true)
    (k_law_stands_so : PySem.W.keepIn K (.ref f_law_stands_so) = true)
    (alaw : PySem.W.nsIn K mainGlobals "law" = some (some (.ref flaw)))
    (llaw : K.lookup flaw = some ⟨oclaw, odlaw, .func (PySem.W.fnOf "law" "law" (defArgs stlaw) (defBody stlaw) (defScope stlaw) .none kVlaw dclaw pmlaw anlaw (.ref cL) ctlaw), sllaw⟩)
    (claw : PySem.W.codeIn K (.ref cL) "law" = true)
    (klaw : PySem.W.keepIn K (.ref flaw) = true)
    (b_all : PySem.W.nsIn K mainGlobals "all" = some none)
    (b_any : PySem.W.nsIn K mainGlobals "any" = some none)
    (b_bool : PySem.W.nsIn K mainGlobals "bool" = some none)
    (b_dict : PySem.W.nsIn K mainGlobals "dict" = some none)
    (b_enumerate : PySem.W.nsIn K mainGlobals "enumerate" = some none)
    (b_int : PySem.W.nsIn K mainGlobals "int" = some none)
    (b_isinstance : PySem.W.nsIn K mainGlobals "isinstance" = some none)
    (b_len : PySem.W.nsIn K mainGlobals "len" = some none)
    (b_list : PySem.W.nsIn K mainGlobals "list" = some none)
    (b_range : PySem.W.nsIn K mainGlobals "range" = some none)
    (b_repr : PySem.W.nsIn K mainGlobals "repr" = some none)
    (b_set : PySem.W.nsIn K mainGlobals "set" = some none)
    (b_sorted : PySem.W.nsIn K mainGlobals "sorted" = some none)
    (b_str : PySem.W.nsIn K mainGlobals "str" = some none)
    (b_tuple : PySem.W.nsIn K mainGlobals "tuple" = some none)
    (b_zip : PySem.W.nsIn K mainGlobals "zip" = some none)
    (c_CAME : PySem.W.nsIn K mainGlobals "CAME" = some (some (.int (10) t_CAME)))
    (c_LAYERS : PySem.W.nsIn K mainGlobals "LAYERS" = some (some (.int (9) t_LAYERS)))
    (c_LETTERS : PySem.W.nsIn K mainGlobals "LETTERS" = some (some (.str k_LETTERS t_LETTERS)))
    (c_LONGEST : PySem.W.nsIn K mainGlobals "LONGEST" = some (some (.int (6) t_LONGEST)))
    (c_MARKED : PySem.W.nsIn K mainGlobals "MARKED" = some (some (.int (8) t_MARKED)))
    (c_MOST_CHANGES : PySem.W.nsIn K mainGlobals "MOST_CHANGES" = some (some (.int (3) t_MOST_CHANGES)))
    (c_MOST_DEEP : PySem.W.nsIn K mainGlobals "MOST_DEEP" = some (some (.int (4) t_MOST_DEEP)))
    (c_MOST_HANDS : PySem.W.nsIn K mainGlobals "MOST_HANDS" = some (some (.int (4) t_MOST_HANDS)))
    (c_MOST_NUMBER : PySem.W.nsIn K mainGlobals "MOST_NUMBER" = some (some (.int (99) t_MOST_NUMBER)))
    (c_MOST_ON_BOARD : PySem.W.nsIn K mainGlobals "MOST_ON_BOARD" = some (some (.int (8) t_MOST_ON_BOARD)))
    (c_MOST_WORDS : PySem.W.nsIn K mainGlobals "MOST_WORDS" = some (some (.int (4) t_MOST_WORDS)))
    (c_MOST_WRITS : PySem.W.nsIn K mainGlobals "MOST_WRITS" = some (some (.int (3) t_MOST_WRITS)))
    (c_PLACES : PySem.W.nsIn K mainGlobals "PLACES" = some (some (.ref a_PLACES)))
    (z_PLACES : K.lookup a_PLACES = some ⟨.type "tuple", o_PLACES, .seq #[.str "board" t_PLACES_0, .str "heap" t_PLACES_1, .str "aside" t_PLACES_2] n_PLACES, s_PLACES⟩)
    (c_ACTS : PySem.W.nsIn K mainGlobals "ACTS" = some (some (.ref da_ACTS)))
    (e_ACTS : K.lookup da_ACTS = some ⟨.type "dict", none, .dict #[⟨PyData.keyHash w.params "strike", .str "strike" tk_ACTS_0, .str "ok" t_ACTS_0⟩, ⟨PyData.keyHash w.params "mark", .str "mark" tk_ACTS_1, .str "ok" t_ACTS_1⟩, ⟨PyData.keyHash w.params "go", .str "go" tk_ACTS_2, .str "o" t_ACTS_2⟩, ⟨PyData.keyHash w.params "last", .str "last" tk_ACTS_3, .str "cg" t_ACTS_3⟩] dn_ACTS, #[]⟩)
    (w_ACTS : (da_ACTS == sysModules) = false)
    (c_CHANGES : PySem.W.nsIn K mainGlobals "CHANGES" = some (some (.ref da_CHANGES)))
    (e_CHANGES : K.lookup da_CHANGES = some ⟨.type "dict", none, .dict #[⟨PyData.keyHash w.params "copy", .str "copy" tk_CHANGES_0, .str "t" t_CHANGES_0⟩, ⟨PyData.keyHash w.params "hand", .str "hand" tk_CHANGES_1, .str "h" t_CHANGES_1⟩, ⟨PyData.keyHash w.params "ours", .str "ours" tk_CHANGES_2, .str "" t_CHANGES_2⟩, ⟨PyData.keyHash w.params "read", .str "read" tk_CHANGES_3, .str "ww" t_CHANGES_3⟩, ⟨PyData.keyHash w.params "be", .str "be" tk_CHANGES_4, .str "l" t_CHANGES_4⟩, ⟨PyData.keyHash w.params "also", .str "also" tk_CHANGES_5, .str "w" t_CHANGES_5⟩, ⟨PyData.keyHash w.params "hue", .str "hue" tk_CHANGES_6, .str "l" t_CHANGES_6⟩, ⟨PyData.keyHash w.params "tint", .str "tint" tk_CHANGES_7, .str "w" t_CHANGES_7⟩, ⟨PyData.keyHash w.params "gain", .str "gain" tk_CHANGES_8, .str "x" t_CHANGES_8⟩, ⟨PyData.keyHash w.params "bare", .str "bare" tk_CHANGES_9, .str "" t_CHANGES_9⟩, ⟨PyData.keyHash w.params "size", .str "size" tk_CHANGES_10, .str "nn" t_CHANGES_10⟩, ⟨PyData.keyHash w.params "more", .str "more" tk_CHANGES_11, .str "nn" t_CHANGES_11⟩, ⟨PyData.keyHash w.params "each", .str "each" tk_CHANGES_12, .str "cnn" t_CHANGES_12⟩, ⟨PyData.keyHash w.params "turn", .str "turn" tk_CHANGES_13, .str "" t_CHANGES_13⟩] dn_CHANGES, #[]⟩)
    (w_CHANGES : (da_CHANGES == sysModules) = false)
    (c_CONDITIONS : PySem.W.nsIn K mainGlobals "CONDITIONS" = some (some (.ref da_CONDITIONS)))
    (e_CONDITIONS : K.lookup da_CONDITIONS = some ⟨.type "dict", none, .dict #[⟨PyData.keyHash w.params "any", .str "any" tk_CONDITIONS_0, .str "" t_CONDITIONS_0⟩, ⟨PyData.keyHash w.params "self", .str "self" tk_CONDITIONS_1, .str "" t_CONDITIONS_1⟩, ⟨PyData.keyHash w.params "other", .str "other" tk_CONDITIONS_2, .str "" t_CONDITIONS_2⟩, ⟨PyData.keyHash w.params "mine", .str "mine" tk_CONDITIONS_3, .str "" t_CONDITIONS_3⟩, ⟨PyData.keyHash w.params "kind", .str "kind" tk_CONDITIONS_4, .str "w" t_CONDITIONS_4⟩, ⟨PyData.keyHash w.params "colour", .str "colour" tk_CONDITIONS_5, .str "w" t_CONDITIONS_5⟩, ⟨PyData.keyHash w.params "least", .str "least" tk_CONDITIONS_6, .str "n" t_CONDITIONS_6⟩, ⟨PyData.keyHash w.params "not", .str "not" tk_CONDITIONS_7, .str "c" t_CONDITIONS_7⟩, ⟨PyData.keyHash w.params "both", .str "both" tk_CONDITIONS_8, .str "cc" t_CONDITIONS_8⟩, ⟨PyData.keyHash w.params "either", .str "either" tk_CONDITIONS_9, .str "cc" t_CONDITIONS_9⟩] dn_CONDITIONS, #[]⟩)
    (w_CONDITIONS : (da_CONDITIONS == sysModules) = false)
    (c_LAYER_OF : PySem.W.nsIn K mainGlobals "LAYER_OF" = some (some (.ref da_LAYER_OF)))
    (e_LAYER_OF : K.lookup da_LAYER_OF = some ⟨.type "dict", none, .dict #[⟨PyData.keyHash w.params "copy", .str "copy" tk_LAYER_OF_0, .int (1) t_LAYER_OF_0⟩, ⟨PyData.keyHash w.params "hand", .str "hand" tk_LAYER_OF_1, .int (2) t_LAYER_OF_1⟩, ⟨PyData.keyHash w.params "ours", .str "ours" tk_LAYER_OF_2, .int (2) t_LAYER_OF_2⟩, ⟨PyData.keyHash w.params "read", .str "read" tk_LAYER_OF_3, .int (3) t_LAYER_OF_3⟩, ⟨PyData.keyHash w.params "be", .str "be" tk_LAYER_OF_4, .int (4) t_LAYER_OF_4⟩, ⟨PyData.keyHash w.params "also", .str "also" tk_LAYER_OF_5, .int (4) t_LAYER_OF_5⟩, ⟨PyData.keyHash w.params "hue", .str "hue" tk_LAYER_OF_6, .int (5) t_LAYER_OF_6⟩, ⟨PyData.keyHash w.params "tint", .str "tint" tk_LAYER_OF_7, .int (5) t_LAYER_OF_7⟩, ⟨PyData.keyHash w.params "gain", .str "gain" tk_LAYER_OF_8, .int (6) t_LAYER_OF_8⟩, ⟨PyData.keyHash w.params "bare", .str "bare" tk_LAYER_OF_9, .int (6) t_LAYER_OF_9⟩, ⟨PyData.keyHash w.params "size", .str "size" tk_LAYER_OF_10, .int (7) t_LAYER_OF_10⟩, ⟨PyData.keyHash w.params "more", .str "more" tk_LAYER_OF_11, .int (8) t_LAYER_OF_11⟩, ⟨PyData.keyHash w.params "each", .str "each" tk_LAYER_OF_12, .int (8) t_LAYER_OF_12⟩, ⟨PyData.keyHash w.params "turn", .str "turn" tk_LAYER_OF_13, .int (9) t_LAYER_OF_13⟩] dn_LAYER_OF, #[]⟩)
    (w_LAYER_OF : (da_LAYER_OF == sysModules) = false)
    (c_LEAVES : PySem.W.nsIn K mainGlobals "LEAVES" = some (some (.ref da_LEAVES)))
    (e_LEAVES : K.lookup da_LEAVES = some ⟨.type "dict", none, .dict #[⟨PyData.keyHash w.params "go", .str "go" tk_LEAVES_0, .str "heap" t_LEAVES_0⟩, ⟨PyData.keyHash w.params "fall", .str "fall" tk_LEAVES_1, .str "heap" t_LEAVES_1⟩, ⟨PyData.keyHash w.params "aside", .str "aside" tk_LEAVES_2, .str "aside" t_LEAVES_2⟩] dn_LEAVES, #[]⟩)
    (w_LEAVES : (da_LEAVES == sysModules) = false)
    (c_LETS : PySem.W.nsIn K mainGlobals "LETS" = some (some (.ref da_LETS)))
    (e_LETS : K.lookup da_LETS = some ⟨.type "dict", none, .dict #[⟨PyData.keyHash w.params "go", .str "go" tk_LETS_0, .ref a_LETS_0⟩, ⟨PyData.keyHash w.params "fall", .str "fall" tk_LETS_1, .ref a_LETS_1⟩, ⟨PyData.keyHash w.params "strike", .str "strike" tk_LETS_2, .ref a_LETS_2⟩, ⟨PyData.keyHash w.params "mark", .str "mark" tk_LETS_3, .ref a_LETS_3⟩] dn_LETS, #[]⟩)
    (w_LETS : (da_LETS == sysModules) = false)
    (z_LETS_0 : K.lookup a_LETS_0 = some ⟨.type "tuple", o_LETS_0, .seq #[.str "none" t_LETS_0_0, .str "aside" t_LETS_0_1, .str "mark" t_LETS_0_2, .str "strike" t_LETS_0_3] n_LETS_0, s_LETS_0⟩)
    (z_LETS_1 : K.lookup a_LETS_1 = some ⟨.type "tuple", o_LETS_1, .seq #[.str "aside" t_LETS_1_0] n_LETS_1, s_LETS_1⟩)
    (z_LETS_2 : K.lookup a_LETS_2 = some ⟨.type "tuple", o_LETS_2, .seq #[.str "none" t_LETS_2_0, .str "twice" t_LETS_2_1, .str "less" t_LETS_2_2, .str "mark" t_LETS_2_3] n_LETS_2, s_LETS_2⟩)
    (z_LETS_3 : K.lookup a_LETS_3 = some ⟨.type "tuple", o_LETS_3, .seq #[.str "none" t_LETS_3_0, .str "twice" t_LETS_3_1, .str "less" t_LETS_3_2] n_LETS_3, s_LETS_3⟩)
    (c_SIZES : PySem.W.nsIn K mainGlobals "SIZES" = some (some (.ref da_SIZES)))
    (e_SIZES : K.lookup da_SIZES = some ⟨.type "dict", none, .dict #[⟨PyData.keyHash w.params "come", .str "come" tk_SIZES_0, .int (2) t_SIZES_0⟩, ⟨PyData.keyHash w.params "go", .str "go" tk_SIZES_1, .int (1) t_SIZES_1⟩, ⟨PyData.keyHash w.params "strike", .str "strike" tk_SIZES_2, .int (2) t_SIZES_2⟩, ⟨PyData.keyHash w.params "mark", .str "mark" tk_SIZES_3, .int (2) t_SIZES_3⟩, ⟨PyData.keyHash w.params "last", .str "last" tk_SIZES_4, .int (4) t_SIZES_4⟩, ⟨PyData.keyHash w.params "round", .str "round" tk_SIZES_5, .int (0) t_SIZES_5⟩] dn_SIZES, #[]⟩)
    (w_SIZES : (da_SIZES == sysModules) = false)
    (c_WAYS : PySem.W.nsIn K mainGlobals "WAYS" = some (some (.ref da_WAYS)))
    (e_WAYS : K.lookup da_WAYS = some ⟨.type "dict", none, .dict #[⟨PyData.keyHash w.params "none", .str "none" tk_WAYS_0, .str "" t_WAYS_0⟩, ⟨PyData.keyHash w.params "twice", .str "twice" tk_WAYS_1, .str "" t_WAYS_1⟩, ⟨PyData.keyHash w.params "less", .str "less" tk_WAYS_2, .str "k" t_WAYS_2⟩, ⟨PyData.keyHash w.params "aside", .str "aside" tk_WAYS_3, .str "" t_WAYS_3⟩, ⟨PyData.keyHash w.params "mark", .str "mark" tk_WAYS_4, .str "k" t_WAYS_4⟩, ⟨PyData.keyHash w.params "strike", .str "strike" tk_WAYS_5, .str "k" t_WAYS_5⟩] dn_WAYS, #[]⟩)
    (w_WAYS : (da_WAYS == sysModules) = false)
    (eg_BadCard : PySem.W.nsIn K mainGlobals "BadCard" = some (some (.ref eBadCard)))
    (ek_BadCard : PySem.W.keepIn K (.ref eBadCard) = true)
    (es_BadCard : PySem.W.subIn K (.ref eBadCard) (.type "BaseException") = some true)
    (et_BadCard : PySem.W.typeIn K (.ref eBadCard) = some (.type "type"))
    (ei_BadCard : PySem.W.excIn K eBadCard HandSPX.veTail "ValueError.__new__" = true)
    (eg_BadChange : PySem.W.nsIn K mainGlobals "BadChange" = some (some (.ref eBadChange)))
    (ek_BadChange : PySem.W.keepIn K (.ref eBadChange) = true)
    (es_BadChange : PySem.W.subIn K (.ref eBadChange) (.type "BaseException") = some true)
    (et_BadChange : PySem.W.typeIn K (.ref eBadChange) = some (.type "type"))
    (ei_BadChange : PySem.W.excIn K eBadChange HandSPX.veTail "ValueError.__new__" = true)
    (eg_BadCondition : PySem.W.nsIn K mainGlobals "BadCondition" = some (some (.ref eBadCondition)))
    (ek_BadCondition : PySem.W.keepIn K (.ref eBadCondition) = true)
    (es_BadCondition : PySem.W.subIn K (.ref eBadCondition) (.type "BaseException") = some true)
    (et_BadCondition : PySem.W.typeIn K (.ref eBadCondition) = some (.type "type"))
    (ei_BadCondition : PySem.W.excIn K eBadCondition HandSPX.veTail "ValueError.__new__" = true)
    (eg_BadHand : PySem.W.nsIn K mainGlobals "BadHand" = some (some (.ref eBadHand)))
    (ek_BadHand : PySem.W.keepIn K (.ref eBadHand) = true)
    (es_BadHand : PySem.W.subIn K (.ref eBadHand) (.type "BaseException") = some true)
    (et_BadHand : PySem.W.typeIn K (.ref eBadHand) = some (.type "type"))
    (ei_BadHand : PySem.W.excIn K eBadHand HandSPX.veTail "ValueError.__new__" = true)
    (eg_BadNumber : PySem.W.nsIn K mainGlobals "BadNumber" = some (some (.ref eBadNumber)))
    (ek_BadNumber : PySem.W.keepIn K (.ref eBadNumber) = true)
    (es_BadNumber : PySem.W.subIn K (.ref eBadNumber) (.type "BaseException") = some true)
    (et_BadNumber : PySem.W.typeIn K (.ref eBadNumber) = some (.type "type"))
    (ei_BadNumber : PySem.W.excIn K eBadNumber HandSPX.veTail "ValueError.__new__" = true)
    (eg_BadOrder : PySem.W.nsIn K mainGlobals "BadOrder" = some (some (.ref eBadOrder)))
    (ek_BadOrder : PySem.W.keepIn K (.ref eBadOrder) = true)
    (es_BadOrder : PySem.W.subIn K (.ref eBadOrder) (.type "BaseException") = some true)
    (et_BadOrder : PySem.W.typeIn K (.ref eBadOrder) = some (.type "type"))
    (ei_BadOrder : PySem.W.excIn K eBadOrder HandSPX.veTail "ValueError.__new__" = true)
    (eg_BadPlace : PySem.W.nsIn K mainGlobals "BadPlace" = some (some (.ref eBadPlace)))
    (ek_BadPlace : PySem.W.keepIn K (.ref eBadPlace) = true)
    (es_BadPlace : PySem.W.subIn K (.ref eBadPlace) (.type "BaseException") = some true)
    (et_BadPlace : PySem.W.typeIn K (.ref eBadPlace) = some (.type "type"))
    (ei_BadPlace : PySem.W.excIn K eBadPlace HandSPX.veTail "ValueError.__new__" = true)
    (eg_NothingLeft : PySem.W.nsIn K mainGlobals "NothingLeft" = some (some (.ref eNothingLeft)))
    (ek_NothingLeft : PySem.W.keepIn K (.ref eNothingLeft) = true)
    (es_NothingLeft : PySem.W.subIn K (.ref eNothingLeft) (.type "BaseException") = some true)
    (et_NothingLeft : PySem.W.typeIn K (.ref eNothingLeft) = some (.type "type"))
    (ei_NothingLeft : PySem.W.excIn K eNothingLeft ieTail "IndexError.__new__" = true)
    (q_l : K.lookup cL = some ⟨ocL, odL, .fields vsL, slL⟩)
    (q_t : vsL[11]? = some (.ref tL))
    (q_h : PySem.W.codeHdIn K cL tL = true)
    (q_n : K.lookup tL = none)
    (q_Missing : PySem.W.nsIn K mainGlobals "Missing" = some (some (.ref cMissing)))
    (q_StandError : PySem.W.nsIn K mainGlobals "StandError" = some (some (.ref cStandError)))
    (q_NothingLeft : PySem.W.nsIn K mainGlobals "NothingLeft" = some (some (.ref cNothingLeft)))
    (ea_BadCard : PySem.W.findIn K (.ref eBadCard) "__getattribute__" = some (some (.builtin "BaseException.__getattribute__")))
    (en_BadCard : PySem.W.findIn K (.ref eBadCard) "__getattr__" = some none)
    (ec_BadCard : PySem.W.findIn K (.ref eBadCard) "called" = some (some (.ref efBadCard)))
    (el_BadCard : K.lookup efBadCard = some ⟨eocBadCard, eodBadCard, .func (PySem.W.fnOf "called" "BadCard.called" (defArgs stcBadCard) (defBody stcBadCard) (defScope stcBadCard) .none ekvBadCard edcBadCard epmBadCard eanBadCard ecdBadCard ectBadCard), eslBadCard⟩)
    (ed_BadCard : PySem.W.codeIn K ecdBadCard "BadCard.called" = true)
    (ep_BadCard : PySem.W.keepIn K (.ref efBadCard) = true)
    (ef_BadCard : PySem.W.isFn K (.ref efBadCard) = true)
    (e1_BadCard : PySem.W.exmOne K (.ref eBadCard) (.ref cMissing) = some false)
    (e2_BadCard : PySem.W.exmAny K (.ref eBadCard) [.ref cStandError, .ref cNothingLeft] = some true)
    (ea_BadChange : PySem.W.findIn K (.ref eBadChange) "__getattribute__" = some (some (.builtin "BaseException.__getattribute__")))
    (en_BadChange : PySem.W.findIn K (.ref eBadChange) "__getattr__" = some none)
    (ec_BadChange : PySem.W.findIn K (.ref eBadChange) "called" = some (some (.ref efBadChange)))
    (el_BadChange : K.lookup efBadChange = some ⟨eocBadChange, eodBadChange, .func (PySem.W.fnOf "called" "BadChange.called" (defArgs stcBadChange) (defBody stcBadChange) (defScope stcBadChange) .none ekvBadChange edcBadChange epmBadChange eanBadChange ecdBadChange ectBadChange), eslBadChange⟩)
    (ed_BadChange : PySem.W.codeIn K ecdBadChange "BadChange.called" = true)
    (ep_BadChange : PySem.W.keepIn K (.ref efBadChange) = true)
    (ef_BadChange : PySem.W.isFn K (.ref efBadChange) = true)
    (e1_BadChange : PySem.W.exmOne K (.ref eBadChange) (.ref cMissing) = some false)
    (e2_BadChange : PySem.W.exmAny K (.ref eBadChange) [.ref cStandError, .ref cNothingLeft] = some true)
    (ea_BadCondition : PySem.W.findIn K (.ref eBadCondition) "__getattribute__" = some (some (.builtin "BaseException.__getattribute__")))
    (en_BadCondition : PySem.W.findIn K (.ref eBadCondition) "__getattr__" = some none)
    (ec_BadCondition : PySem.W.findIn K (.ref eBadCondition) "called" = some (some (.ref efBadCondition)))
    (el_BadCondition : K.lookup efBadCondition = some ⟨eocBadCondition, eodBadCondition, .func (PySem.W.fnOf "called" "BadCondition.called" (defArgs stcBadCondition) (defBody stcBadCondition) (defScope stcBadCondition) .none ekvBadCondition edcBadCondition epmBadCondition eanBadCondition ecdBadCondition ectBadCondition), eslBadCondition⟩)
    (ed_BadCondition : PySem.W.codeIn K ecdBadCondition "BadCondition.called" = true)
    (ep_BadCondition : PySem.W.keepIn K (.ref efBadCondition) = true)
    (ef_BadCondition : PySem.W.isFn K (.ref efBadCondition) = true)
    (e1_BadCondition : PySem.W.exmOne K (.ref eBadCondition) (.ref cMissing) = some false)
    (e2_BadCondition : PySem.W.exmAny K (.ref eBadCondition) [.ref cStandError, .ref cNothingLeft] = some true)
    (ea_BadHand : PySem.W.findIn K (.ref eBadHand) "__getattribute__" = some (some (.builtin "BaseException.__getattribute__")))
    (en_BadHand : PySem.W.findIn K (.ref eBadHand) "__getattr__" = some none)
    (ec_BadHand : PySem.W.findIn K (.ref eBadHand) "called" = some (some (.ref efBadHand)))
    (el_BadHand : K.lookup efBadHand = some ⟨eocBadHand, eodBadHand, .func (PySem.W.fnOf "called" "BadHand.called" (defArgs stcBadHand) (defBody stcBadHand) (defScope stcBadHand) .none ekvBadHand edcBadHand epmBadHand eanBadHand ecdBadHand ectBadHand), eslBadHand⟩)
    (ed_BadHand : PySem.W.codeIn K ecdBadHand "BadHand.called" = true)
    (ep_BadHand : PySem.W.keepIn K (.ref efBadHand) = true)
    (ef_BadHand : PySem.W.isFn K (.ref efBadHand) = true)
    (e1_BadHand : PySem.W.exmOne K (.ref eBadHand) (.ref cMissing) = some false)
    (e2_BadHand : PySem.W.exmAny K (.ref eBadHand) [.ref cStandError, .ref cNothingLeft] = some true)
    (ea_BadNumber : PySem.W.findIn K (.ref eBadNumber) "__getattribute__" = some (some (.builtin "BaseException.__getattribute__")))
    (en_BadNumber : PySem.W.findIn K (.ref eBadNumber) "__getattr__" = some none)
    (ec_BadNumber : PySem.W.findIn K (.ref eBadNumber) "called" = some (some (.ref efBadNumber)))
    (el_BadNumber : K.lookup efBadNumber = some ⟨eocBadNumber, eodBadNumber, .func (PySem.W.fnOf "called" "BadNumber.called" (defArgs stcBadNumber) (defBody stcBadNumber) (defScope stcBadNumber) .none ekvBadNumber edcBadNumber epmBadNumber eanBadNumber ecdBadNumber ectBadNumber), eslBadNumber⟩)
    (ed_BadNumber : PySem.W.codeIn K ecdBadNumber "BadNumber.called" = true)
    (ep_BadNumber : PySem.W.keepIn K (.ref efBadNumber) = true)
    (ef_BadNumber : PySem.W.isFn K (.ref efBadNumber) = true)
    (e1_BadNumber : PySem.W.exmOne K (.ref eBadNumber) (.ref cMissing) = some false)
    (e2_BadNumber : PySem.W.exmAny K (.ref eBadNumber) [.ref cStandError, .ref cNothingLeft] = some true)
    (ea_BadOrder : PySem.W.findIn K (.ref eBadOrder) "__getattribute__" = some (some (.builtin "BaseException.__getattribute__")))
    (en_BadOrder : PySem.W.findIn K (.ref eBadOrder) "__getattr__" = some none)
    (ec_BadOrder : PySem.W.findIn K (.ref eBadOrder) "called" = some (some (.ref efBadOrder)))
    (el_BadOrder : K.lookup efBadOrder = some ⟨eocBadOrder, eodBadOrder, .func (PySem.W.fnOf "called" "BadOrder.called" (defArgs stcBadOrder) (defBody stcBadOrder) (defScope stcBadOrder) .none ekvBadOrder edcBadOrder epmBadOrder eanBadOrder ecdBadOrder ectBadOrder), eslBadOrder⟩)
    (ed_BadOrder : PySem.W.codeIn K ecdBadOrder "BadOrder.called" = true)
    (ep_BadOrder : PySem.W.keepIn K (.ref efBadOrder) = true)
    (ef_BadOrder : PySem.W.isFn K (.ref efBadOrder) = true)
    (e1_BadOrder : PySem.W.exmOne K (.ref eBadOrder) (.ref cMissing) = some false)
    (e2_BadOrder : PySem.W.exmAny K (.ref eBadOrder) [.ref cStandError, .ref cNothingLeft] = some true)
    (ea_BadPlace : PySem.W.findIn K (.ref eBadPlace) "__getattribute__" = some (some (.builtin "BaseException.__getattribute__")))
    (en_BadPlace : PySem.W.findIn K (.ref eBadPlace) "__getattr__" = some none)
    (ec_BadPlace : PySem.W.findIn K (.ref eBadPlace) "called" = some (some (.ref efBadPlace)))
    (el_BadPlace : K.lookup efBadPlace = some ⟨eocBadPlace, eodBadPlace, .func (PySem.W.fnOf "called" "BadPlace.called" (defArgs stcBadPlace) (defBody stcBadPlace) (defScope stcBadPlace) .none ekvBadPlace edcBadPlace epmBadPlace eanBadPlace ecdBadPlace ectBadPlace), eslBadPlace⟩)
    (ed_BadPlace : PySem.W.codeIn K ecdBadPlace "BadPlace.called" = true)
    (ep_BadPlace : PySem.W.keepIn K (.ref efBadPlace) = true)
    (ef_BadPlace : PySem.W.isFn K (.ref efBadPlace) = true)
    (e1_BadPlace : PySem.W.exmOne K (.ref eBadPlace) (.ref cMissing) = some false)
    (e2_BadPlace : PySem.W.exmAny K (.ref eBadPlace) [.ref cStandError, .ref cNothingLeft] = some true)
    (ea_NothingLeft : PySem.W.findIn K (.ref eNothingLeft) "__getattribute__" = some (some (.builtin "BaseException.__getattribute__")))
    (en_NothingLeft : PySem.W.findIn K (.ref eNothingLeft) "__getattr__" = some none)
    (ec_NothingLeft : PySem.W.findIn K (.ref eNothingLeft) "called" = some (some (.ref efNothingLeft)))
    (el_NothingLeft : K.lookup efNothingLeft = some ⟨eocNothingLeft, eodNothingLeft, .func (PySem.W.fnOf "called" "NothingLeft.called" (defArgs stcNothingLeft) (defBody stcNothingLeft) (defScope stcNothingLeft) .none ekvNothingLeft edcNothingLeft epmNothingLeft eanNothingLeft ecdNothingLeft ectNothingLeft), eslNothingLeft⟩)
    (ed_NothingLeft : PySem.W.codeIn K ecdNothingLeft "NothingLeft.called" = true)
    (ep_NothingLeft : PySem.W.keepIn K (.ref efNothingLeft) = true)
    (ef_NothingLeft : PySem.W.isFn K (.ref efNothingLeft) = true)
    (e1_NothingLeft : PySem.W.exmOne K (.ref eNothingLeft) (.ref cMissing) = some false)
    (e2_NothingLeft : PySem.W.exmAny K (.ref eNothingLeft) [.ref cStandError, .ref cNothingLeft] = some true)
    {nfTable : Addr}
    (ja_Sheet : PySem.W.findIn K (.ref clSheet) "__class__" = some (some (.builtin "object.__class__")))
    (jn_Sheet : PySem.W.specialIn K (.builtin "object.__class__") "__get__" = some (some (.builtin "getset_descriptor.__get__")))
    (jt_Sheet : PySem.W.takesIn K (.builtin "object.__class__") = some true)
    (jm_Sheet : PySem.W.mroIn K clSheet (.type "object") = some true)
    (jc_Sheet : ((PySem.W.clsIn K clSheet).isSome && PySem.W.typeIn K (.ref clSheet) == some (.type "type")) = true)
    (ja_Table : PySem.W.findIn K (.ref clTable) "__class__" = some (some (.builtin "object.__class__")))
    (jn_Table : PySem.W.specialIn K (.builtin "object.__class__") "__get__" = some (some (.builtin "getset_descriptor.__get__")))
    (jt_Table : PySem.W.takesIn K (.builtin "object.__class__") = some true)
    (jm_Table : PySem.W.mroIn K clTable (.type "object") = some true)
    (jc_Table : ((PySem.W.clsIn K clTable).isSome && PySem.W.typeIn K (.ref clTable) == some (.type "type")) = true)
    (je_Table : PySem.W.findIn K (.ref clTable) "__eq__" = some (some (.ref nfTable)))
    (jx_Table : neIn K clTable nfTable = true)
    (main : ∀ ns : List Int, ns.length ≤ 63 → ∃ h', mlaw [.rol (ns.map .int)] [] = .ok (.bl true) h') :
    LamX.OwnTab K fa h → ∃ (fd : FuncData) (c T : Addr), h.get? T = some { cls := .none, data := .fields #[] } ∧ K.lookup T = none ∧ PySem.W.CodeHd h c T ∧ (∀ (s : Shared) (u : Value), BindsTo s fd ⟨[u], []⟩ [("_law_script", u)]) ∧
        ∀ base : Heap, K.In base → base.Ns mainGlobals mg → LamX.TabB base mg c T → FnG l.prog w K mg base (L2.CX l.prog w) 43 fa fd ["_law_script"] (spT K T) := by
  have e := hfa.symm.trans (PySem.W.mg_of X G alaw)
  cases e
  have VCourse : ClsV K mg "Course" clCourse := ⟨PySem.W.mg_of X G cg_Course, ⟨cp_Course, ch_Course, co_Course, cs_Course⟩⟩
  have VRun : ClsV K mg "Run" clRun := ⟨PySem.W.mg_of X G cg_Run, ⟨cp_Run, ch_Run, co_Run, cs_Run⟩⟩
  have VSheet : ClsV K mg "Sheet" clSheet := ⟨PySem.W.mg_of X G cg_Sheet, ⟨cp_Sheet, ch_Sheet, co_Sheet, cs_Sheet⟩⟩
  have VStand : ClsV K mg "Stand" clStand := ⟨PySem.W.mg_of X G cg_Stand, ⟨cp_Stand, ch_Stand, co_Stand, cs_Stand⟩⟩
  have VTable : ClsV K mg "Table" clTable := ⟨PySem.W.mg_of X G cg_Table, ⟨cp_Table, ch_Table, co_Table, cs_Table⟩⟩
  have VBadCard : ErrV K mg "BadCard" eBadCard := ⟨⟨PySem.W.mg_of X G eg_BadCard, ek_BadCard, es_BadCard, et_BadCard⟩, ei_BadCard⟩
  have VBadChange : ErrV K mg "BadChange" eBadChange := ⟨⟨PySem.W.mg_of X G eg_BadChange, ek_BadChange, es_BadChange, et_BadChange⟩, ei_BadChange⟩
  have VBadCondition : ErrV K mg "BadCondition" eBadCondition := ⟨⟨PySem.W.mg_of X G eg_BadCondition, ek_BadCondition, es_BadCondition, et_BadCondition⟩, ei_BadCondition⟩
  have VBadHand : ErrV K mg "BadHand" eBadHand := ⟨⟨PySem.W.mg_of X G eg_BadHand, ek_BadHand, es_BadHand, et_BadHand⟩, ei_BadHand⟩
  have VBadNumber : ErrV K mg "BadNumber" eBadNumber := ⟨⟨PySem.W.mg_of X G eg_BadNumber, ek_BadNumber, es_BadNumber, et_BadNumber⟩, ei_BadNumber⟩
  have VBadOrder : ErrV K mg "BadOrder" eBadOrder := ⟨⟨PySem.W.mg_of X G eg_BadOrder, ek_BadOrder, es_BadOrder, et_BadOrder⟩, ei_BadOrder⟩
  have VBadPlace : ErrV K mg "BadPlace" eBadPlace := ⟨⟨PySem.W.mg_of X G eg_BadPlace, ek_BadPlace, es_BadPlace, et_BadPlace⟩, ei_BadPlace⟩
  have VNothingLeft : ErrI K mg "NothingLeft" eNothingLeft := ⟨⟨PySem.W.mg_of X G eg_NothingLeft, ek_NothingLeft, es_NothingLeft, et_NothingLeft⟩, ei_NothingLeft⟩
  have SBadCard : CalK K eBadCard "BadCard" := ⟨ea_BadCard, en_BadCard, _, ec_BadCard, say_mk (st := stcBadCard) el_BadCard ed_BadCard ep_BadCard ef_BadCard ⟨_, _, _, rfl⟩ sccBadCard (fun us hl => match us, hl with | [_], _ => rfl)⟩
  have SBadChange : CalK K eBadChange "BadChange" := ⟨ea_BadChange, en_BadChange, _, ec_BadChange, say_mk (st := stcBadChange) el_BadChange ed_BadChange ep_BadChange ef_BadChange ⟨_, _, _, rfl⟩ sccBadChange (fun us hl => match us, hl with | [_], _ => rfl)⟩
  have SBadCondition : CalK K eBadCondition "BadCondition" := ⟨ea_BadCondition, en_BadCondition, _, ec_BadCondition, say_mk (st := stcBadCondition) el_BadCondition ed_BadCondition ep_BadCondition ef_BadCondition ⟨_, _, _, rfl⟩ sccBadCondition (fun us hl => match us, hl with | [_], _ => rfl)⟩
  have SBadHand : CalK K eBadHand "BadHand" := ⟨ea_BadHand, en_BadHand, _, ec_BadHand, say_mk (st := stcBadHand) el_BadHand ed_BadHand ep_BadHand ef_BadHand ⟨_, _, _, rfl⟩ sccBadHand (fun us hl => match us, hl with | [_], _ => rfl)⟩
  have SBadNumber : CalK K eBadNumber "BadNumber" := ⟨ea_BadNumber, en_BadNumber, _, ec_BadNumber, say_mk (st := stcBadNumber) el_BadNumber ed_BadNumber ep_BadNumber ef_BadNumber ⟨_, _, _, rfl⟩ sccBadNumber (fun us hl => match us, hl with | [_], _ => rfl)⟩
  have SBadOrder : CalK K eBadOrder "BadOrder" := ⟨ea_BadOrder, en_BadOrder, _, ec_BadOrder, say_mk (st := stcBadOrder) el_BadOrder ed_BadOrder ep_BadOrder ef_BadOrder ⟨_, _, _, rfl⟩ sccBadOrder (fun us hl => match us, hl with | [_], _ => rfl)⟩
  have SBadPlace : CalK K eBadPlace "BadPlace" := ⟨ea_BadPlace, en_BadPlace, _, ec_BadPlace, say_mk (st := stcBadPlace) el_BadPlace ed_BadPlace ep_BadPlace ef_BadPlace ⟨_, _, _, rfl⟩ sccBadPlace (fun us hl => match us, hl with | [_], _ => rfl)⟩
  have SNothingLeft : CalK K eNothingLeft "NothingLeft" := ⟨ea_NothingLeft, en_NothingLeft, _, ec_NothingLeft, say_mk (st := stcNothingLeft) el_NothingLeft ed_NothingLeft ep_NothingLeft ef_NothingLeft ⟨_, _, _, rfl⟩ sccNothingLeft (fun us hl => match us, hl with | [_], _ => rfl)⟩
  have KA : AskK K mg clA cMissing cStandError cNothingLeft := (AskK.cons (PySem.W.mg_of X G eg_BadCard) e1_BadCard e2_BadCard SBadCard (AskK.cons (PySem.W.mg_of X G eg_BadChange) e1_BadChange e2_BadChange SBadChange (AskK.cons (PySem.W.mg_of X G eg_BadCondition) e1_BadCondition e2_BadCondition SBadCondition (AskK.cons (PySem.W.mg_of X G eg_BadHand) e1_BadHand e2_BadHand SBadHand (AskK.cons (PySem.W.mg_of X G eg_BadNumber) e1_BadNumber e2_BadNumber SBadNumber (AskK.cons (PySem.W.mg_of X G eg_BadOrder) e1_BadOrder e2_BadOrder SBadOrder (AskK.cons (PySem.W.mg_of X G eg_BadPlace) e1_BadPlace e2_BadPlace SBadPlace (AskK.cons (PySem.W.mg_of X G eg_NothingLeft) e1_NothingLeft e2_NothingLeft SNothingLeft AskK.nil))))))))
  have T : Txt K w mg := ⟨⟨_, _, _, PySem.W.mg_of X G q_Missing, PySem.W.mg_of X G q_StandError, PySem.W.mg_of X G q_NothingLeft, KA⟩, ⟨_, VSheet, ja_Sheet, jn_Sheet, jt_Sheet, jm_Sheet, jc_Sheet⟩, ⟨_, VTable, ja_Table, jn_Table, jt_Table, jm_Table, jc_Table⟩, ⟨_, _, VTable.m, je_Table, jx_Table⟩, ⟨⟨_, VCourse, by simp only [List.forall_mem_cons]; exact ⟨cn_Course_begun, cn_Course_lasts, cn_Course_marks, cn_Course_moments, cn_Course_stand, cn_Course_told_steps, fun _ z => absurd z List.not_mem_nil⟩⟩⟩, ⟨⟨_, VRun, by simp only [List.forall_mem_cons]; exact ⟨cn_Run_acts, cn_Run_now, cn_Run_order, cn_Run_seen, cn_Run_stack, cn_Run_story, fun _ z => absurd z List.not_mem_nil⟩⟩⟩, ⟨⟨_, VSheet, by simp only [List.forall_mem_cons]; exact ⟨cn_Sheet_stands, cn_Sheet_steps_done, cn_Sheet_waits_told, fun _ z => absurd z List.not_mem_nil⟩⟩⟩, ⟨⟨_, VStand, by simp only [List.forall_mem_cons]; exact ⟨cn_Stand_came, cn_Stand_shown, fun _ z => absurd z List.not_mem_nil⟩⟩⟩, ⟨⟨_, VTable, by simp only [List.forall_mem_cons]; exact ⟨cn_Table_at_work, cn_Table_kept, cn_Table_later, cn_Table_now, cn_Table_past, fun _ z => absurd z List.not_mem_nil⟩⟩⟩, ⟨_, VBadCard⟩, ⟨_, VBadChange⟩, ⟨_, VBadCondition⟩, ⟨_, VBadHand⟩, ⟨_, VBadNumber⟩, ⟨_, VBadOrder⟩, ⟨_, VBadPlace⟩, ⟨_, VNothingLeft⟩, PySem.W.mg_none_of X G b_all, PySem.W.mg_none_of X G b_any, PySem.W.mg_none_of X G b_bool, PySem.W.mg_none_of X G b_dict, PySem.W.mg_none_of X G b_enumerate, PySem.W.mg_none_of X G b_int, PySem.W.mg_none_of X G b_isinstance, PySem.W.mg_none_of X G b_len, PySem.W.mg_none_of X G b_list, PySem.W.mg_none_of X G b_range, PySem.W.mg_none_of X G b_repr, PySem.W.mg_none_of X G b_set, PySem.W.mg_none_of X G b_sorted, PySem.W.mg_none_of X G b_str, PySem.W.mg_none_of X G b_tuple, PySem.W.mg_none_of X G b_zip, ⟨_, PySem.W.mg_of X G c_CAME⟩, ⟨_, PySem.W.mg_of X G c_LAYERS⟩, ⟨_, PySem.W.mg_of X G c_LETTERS⟩, ⟨_, PySem.W.mg_of X G c_LONGEST⟩, ⟨_, PySem.W.mg_of X G c_MARKED⟩, ⟨_, PySem.W.mg_of X G c_MOST_CHANGES⟩, ⟨_, PySem.W.mg_of X G c_MOST_DEEP⟩, ⟨_, PySem.W.mg_of X G c_MOST_HANDS⟩, ⟨_, PySem.W.mg_of X G c_MOST_NUMBER⟩, ⟨_, PySem.W.mg_of X G c_MOST_ON_BOARD⟩, ⟨_, PySem.W.mg_of X G c_MOST_WORDS⟩, ⟨_, PySem.W.mg_of X G c_MOST_WRITS⟩, kcon_mk X G c_PLACES (kr_tup z_PLACES ⟨kr_str, kr_str, kr_str, trivial⟩ (by decide)), kdat_mk X G c_ACTS e_ACTS w_ACTS ⟨⟨⟨_, rfl⟩, rfl, kr_str⟩, ⟨⟨_, rfl⟩, rfl, kr_str⟩, ⟨⟨_, rfl⟩, rfl, kr_str⟩, ⟨⟨_, rfl⟩, rfl, kr_str⟩, trivial⟩, kdat_mk X G c_CHANGES e_CHANGES w_CHANGES ⟨⟨⟨_, rfl⟩, rfl, kr_str⟩, ⟨⟨_, rfl⟩, rfl, kr_str⟩, ⟨⟨_, rfl⟩, rfl, kr_str⟩, ⟨⟨_, rfl⟩, rfl, kr_str⟩, ⟨⟨_, rfl⟩, rfl, kr_str⟩, ⟨⟨_, rfl⟩, rfl, kr_str⟩, ⟨⟨_, rfl⟩, rfl, kr_str⟩, ⟨⟨_, rfl⟩, rfl, kr_str⟩, ⟨⟨_, rfl⟩, rfl, kr_str⟩, ⟨⟨_, rfl⟩, rfl, kr_str⟩, ⟨⟨_, rfl⟩, rfl, kr_str⟩, ⟨⟨_, rfl⟩, rfl, kr_str⟩, ⟨⟨_, rfl⟩, rfl, kr_str⟩, ⟨⟨_, rfl⟩, rfl, kr_str⟩, trivial⟩, kdat_mk X G c_CONDITIONS e_CONDITIONS w_CONDITIONS ⟨⟨⟨_, rfl⟩, rfl, kr_str⟩, ⟨⟨_, rfl⟩, rfl, kr_str⟩, ⟨⟨_, rfl⟩, rfl, kr_str⟩, ⟨⟨_, rfl⟩, rfl, kr_str⟩, ⟨⟨_, rfl⟩, rfl, kr_str⟩, ⟨⟨_, rfl⟩, rfl, kr_str⟩, ⟨⟨_, rfl⟩, rfl, kr_str⟩, ⟨⟨_, rfl⟩, rfl, kr_str⟩, ⟨⟨_, rfl⟩, rfl, kr_str⟩, ⟨⟨_, rfl⟩, rfl, kr_str⟩, trivial⟩, kdat_mk X G c_LAYER_OF e_LAYER_OF w_LAYER_OF ⟨⟨⟨_, rfl⟩, rfl, kr_int⟩, ⟨⟨_, rfl⟩, rfl, kr_int⟩, ⟨⟨_, rfl⟩, rfl, kr_int⟩, ⟨⟨_, rfl⟩, rfl, kr_int⟩, ⟨⟨_, rfl⟩, rfl, kr_int⟩, ⟨⟨_, rfl⟩, rfl, kr_int⟩, ⟨⟨_, rfl⟩, rfl, kr_int⟩, ⟨⟨_, rfl⟩, rfl, kr_int⟩, ⟨⟨_, rfl⟩, rfl, kr_int⟩, ⟨⟨_, rfl⟩, rfl, kr_int⟩, ⟨⟨_, rfl⟩, rfl, kr_int⟩, ⟨⟨_, rfl⟩, rfl, kr_int⟩, ⟨⟨_, rfl⟩, rfl, kr_int⟩, ⟨⟨_, rfl⟩, rfl, kr_int⟩, trivial⟩, kdat_mk X G c_LEAVES e_LEAVES w_LEAVES ⟨⟨⟨_, rfl⟩, rfl, kr_str⟩, ⟨⟨_, rfl⟩, rfl, kr_str⟩, ⟨⟨_, rfl⟩, rfl, kr_str⟩, trivial⟩, kdat_mk X G c_LETS e_LETS w_LETS ⟨⟨⟨_, rfl⟩, rfl, (kr_tup z_LETS_0 ⟨kr_str, kr_str, kr_str, kr_str, trivial⟩ (by decide))⟩, ⟨⟨_, rfl⟩, rfl, (kr_tup z_LETS_1 ⟨kr_str, trivial⟩ (by decide))⟩, ⟨⟨_, rfl⟩, rfl, (kr_tup z_LETS_2 ⟨kr_str, kr_str, kr_str, kr_str, trivial⟩ (by decide))⟩, ⟨⟨_, rfl⟩, rfl, (kr_tup z_LETS_3 ⟨kr_str, kr_str, kr_str, trivial⟩ (by decide))⟩, trivial⟩, kdat_mk X G c_SIZES e_SIZES w_SIZES ⟨⟨⟨_, rfl⟩, rfl, kr_int⟩, ⟨⟨_, rfl⟩, rfl, kr_int⟩, ⟨⟨_, rfl⟩, rfl, kr_int⟩, ⟨⟨_, rfl⟩, rfl, kr_int⟩, ⟨⟨_, rfl⟩, rfl, kr_int⟩, ⟨⟨_, rfl⟩, rfl, kr_int⟩, trivial⟩, kdat_mk X G c_WAYS e_WAYS w_WAYS ⟨⟨⟨_, rfl⟩, rfl, kr_str⟩, ⟨⟨_, rfl⟩, rfl, kr_str⟩, ⟨⟨_, rfl⟩, rfl, kr_str⟩, ⟨⟨_, rfl⟩, rfl, kr_str⟩, ⟨⟨_, rfl⟩, rfl, kr_str⟩, ⟨⟨_, rfl⟩, rfl, kr_str⟩, trivial⟩⟩
  have DStand_m___init__ : DefX K mg "__init__" "Stand.__init__" stStand_m___init__ [] [] _ _ := defX0 lStand_m___init__ cStand_m___init__ kStand_m___init__
  have Dfirst_look : DefX K mg "first_look" "first_look" stfirst_look [] [] _ _ := defX0 lfirst_look cfirst_look kfirst_look
  have Dturned : DefX K mg "turned" "turned" stturned [] [] _ _ := defX0 lturned cturned kturned
  have Dplain_look : DefX K mg "plain_look" "plain_look" stplain_look [] [] _ _ := defX0 lplain_look cplain_look kplain_look
  have Dis_number : DefX K mg "is_number" "is_number" stis_number [] [] _ _ := defX0 lis_number cis_number kis_number
  have Dis_word : DefX K mg "is_word" "is_word" stis_word [] [] _ _ := defX0 lis_word cis_word kis_word
  have Dis_list : DefX K mg "is_list" "is_list" stis_list [] [] _ _ := defX0 lis_list cis_list kis_list
  have Dform_of : DefX K mg "form_of" "form_of" stform_of [] [] _ _ := defX0 lform_of cform_of kform_of
  have Dis_term : DefX K mg "is_term" "is_term" stis_term [] [] _ _ := defX0 lis_term cis_term kis_term
  have Dis_part : DefX K mg "is_part" "is_part" stis_part [] [] _ _ := defX0 lis_part cis_part kis_part
  have Dis_condition : DefX K mg "is_condition" "is_condition" stis_condition [] [("deep", .int (4))] _ _ := defXk lis_condition cis_condition kis_condition ⟨⟨_, d0is_condition, kr_int⟩, trivial⟩
  have Dis_change : DefX K mg "is_change" "is_change" stis_change [] [("plain", .bl false)] _ _ := defXk lis_change cis_change kis_change ⟨⟨_, d0is_change, kr_bl⟩, trivial⟩
  have Dis_writ : DefX K mg "is_writ" "is_writ" stis_writ [] [("plain", .bl false)] _ _ := defXk lis_writ cis_writ kis_writ ⟨⟨_, d0is_writ, kr_bl⟩, trivial⟩
  have Dchanges_in : DefX K mg "changes_in" "changes_in" stchanges_in [] [] _ _ := defX0 lchanges_in cchanges_in kchanges_in
  have Dwrits_now : DefX K mg "writs_now" "writs_now" stwrits_now [] [] _ _ := defX0 lwrits_now cwrits_now kwrits_now
  have Dstanding : DefX K mg "standing" "standing" ststanding [] [] _ _ := defX0 lstanding cstanding kstanding
  have Dof_numbers : DefX K mg "of_numbers" "of_numbers" stof_numbers [] [] _ _ := defX0 lof_numbers cof_numbers kof_numbers
  have Dmarked : DefX K mg "marked" "marked" stmarked [] [] _ _ := defX0 lmarked cmarked kmarked
  have DCourse_m___init__ : DefX K mg "__init__" "Course.__init__" stCourse_m___init__ [] [] _ _ := defX0 lCourse_m___init__ cCourse_m___init__ kCourse_m___init__
  have DCourse_m_left_in : DefX K mg "left_in" "Course.left_in" stCourse_m_left_in [] [] _ _ := defX0 lCourse_m_left_in cCourse_m_left_in kCourse_m_left_in
  have DCourse_m_waits_in : DefX K mg "waits_in" "Course.waits_in" stCourse_m_waits_in [] [] _ _ := defX0 lCourse_m_waits_in cCourse_m_waits_in kCourse_m_waits_in
  have DCourse_m_count_marks : DefX K mg "count_marks" "Course.count_marks" stCourse_m_count_marks [] [] _ _ := defX0 lCourse_m_count_marks cCourse_m_count_marks kCourse_m_count_marks
  have DCourse_m_go_on : DefX K mg "go_on" "Course.go_on" stCourse_m_go_on [] [] _ _ := defX0 lCourse_m_go_on cCourse_m_go_on kCourse_m_go_on
  have Dbegun_course : DefX K mg "begun_course" "begun_course" stbegun_course [] [] _ _ := defX0 lbegun_course cbegun_course kbegun_course
  have Dtold_looks : DefX K mg "told_looks" "told_looks" sttold_looks [] [] _ _ := defX0 ltold_looks ctold_looks ktold_looks
  have DSheet_m___init__ : DefX K mg "__init__" "Sheet.__init__" stSheet_m___init__ [] [("lasting", .ktp [])] _ _ := defXk lSheet_m___init__ cSheet_m___init__ kSheet_m___init__ ⟨⟨_, d0Sheet_m___init__, (kr_tup z_kw0Sheet_m___init__ trivial (by decide))⟩, trivial⟩
  have DSheet_m_go_through : DefX K mg "go_through" "Sheet.go_through" stSheet_m_go_through [] [] _ _ := defX0 lSheet_m_go_through cSheet_m_go_through kSheet_m_go_through
  have DSheet_m_looks : DefX K mg "looks" "Sheet.looks" stSheet_m_looks [] [] _ _ := defX0 lSheet_m_looks cSheet_m_looks kSheet_m_looks
  have DSheet_m_steps : DefX K mg "steps" "Sheet.steps" stSheet_m_steps [] [] _ _ := defX0 lSheet_m_steps cSheet_m_steps kSheet_m_steps
  have Don_board : DefX K mg "on_board" "on_board" ston_board [] [] _ _ := defX0 lon_board con_board kon_board
  have Dsheet_of : DefX K mg "sheet_of" "sheet_of" stsheet_of [] [] _ _ := defX0 lsheet_of csheet_of ksheet_of
  have Dneed_thing : DefX K mg "need_thing" "need_thing" stneed_thing [] [] _ _ := defX0 lneed_thing cneed_thing kneed_thing
  have Dthere : DefX K mg "there" "there" stthere [] [] _ _ := defX0 lthere cthere kthere
  have DTable_m___init__ : DefX K mg "__init__" "Table.__init__" stTable_m___init__ [] [("hands", .int (2))] _ _ := defXk lTable_m___init__ cTable_m___init__ kTable_m___init__ ⟨⟨_, d0Table_m___init__, kr_int⟩, trivial⟩
  have DTable_m___eq__ : DefX K mg "__eq__" "Table.__eq__" stTable_m___eq__ [] [] _ _ := defX0 lTable_m___eq__ cTable_m___eq__ kTable_m___eq__
  have DTable_m___len__ : DefX K mg "__len__" "Table.__len__" stTable_m___len__ [] [] _ _ := defX0 lTable_m___len__ cTable_m___len__ kTable_m___len__
  have DTable_m___repr__ : DefX K mg "__repr__" "Table.__repr__" stTable_m___repr__ [] [] _ _ := defX0 lTable_m___repr__ cTable_m___repr__ kTable_m___repr__
  have DTable_m_stand_so : DefX K mg "stand_so" "Table.stand_so" stTable_m_stand_so [] [] _ _ := defX0 lTable_m_stand_so cTable_m_stand_so kTable_m_stand_so
  have DTable_m_undo : DefX K mg "undo" "Table.undo" stTable_m_undo [] [] _ _ := defX0 lTable_m_undo cTable_m_undo kTable_m_undo
  have DTable_m_redo : DefX K mg "redo" "Table.redo" stTable_m_redo [] [] _ _ := defX0 lTable_m_redo cTable_m_redo kTable_m_redo
  have DTable_m_done : DefX K mg "done" "Table.done" stTable_m_done [] [] _ _ := defX0 lTable_m_done cTable_m_done kTable_m_done
  have DTable_m_busy : DefX K mg "busy" "Table.busy" stTable_m_busy [] [] _ _ := defX0 lTable_m_busy cTable_m_busy kTable_m_busy
  have DTable_m_sheet : DefX K mg "sheet" "Table.sheet" stTable_m_sheet [] [] _ _ := defX0 lTable_m_sheet cTable_m_sheet kTable_m_sheet
  have DTable_m_thing : DefX K mg "thing" "Table.thing" stTable_m_thing [] [] _ _ := defX0 lTable_m_thing cTable_m_thing kTable_m_thing
  have DTable_m_things : DefX K mg "things" "Table.things" stTable_m_things [.str "board"] [] _ _ := defXd lTable_m_things cTable_m_things kTable_m_things dtTable_m_things ⟨kr_str, trivial⟩ (by simp)
  have DTable_m_lasting : DefX K mg "lasting" "Table.lasting" stTable_m_lasting [] [] _ _ := defX0 lTable_m_lasting cTable_m_lasting kTable_m_lasting
  have DTable_m_hands : DefX K mg "hands" "Table.hands" stTable_m_hands [] [] _ _ := defX0 lTable_m_hands cTable_m_hands kTable_m_hands
  have DTable_m_rounds : DefX K mg "rounds" "Table.rounds" stTable_m_rounds [] [] _ _ := defX0 lTable_m_rounds cTable_m_rounds kTable_m_rounds
  have D_law_bag : DefX K mg "_law_bag" "_law_bag" st_law_bag [] [] _ _ := defX0 l_law_bag c_law_bag k_law_bag
  have D_law_get : DefX K mg "_law_get" "_law_get" st_law_get [] [] _ _ := defX0 l_law_get c_law_get k_law_get
  have D_law_same : DefX K mg "_law_same" "_law_same" st_law_same [] [] _ _ := defX0 l_law_same c_law_same k_law_same
  have F_law_ask := def_mk (st := st_law_ask) (ps := ["_law_ask_here"]) X G a_law_ask l_law_ask c_law_ask k_law_ask fun _ _ _ _ _ _ us hl => match us, hl with | [_], _ => rfl
  have D_law_now : DefX K mg "_law_now" "_law_now" st_law_now [] [] _ _ := defX0 l_law_now c_law_now k_law_now
  have D_law_stands_so : DefX K mg "_law_stands_so" "_law_stands_so" st_law_stands_so [] [] _ _ := defX0 l_law_stands_so c_law_stands_so k_law_stands_so
  have Dlaw : DefX K mg "law" "law" stlaw [] [] _ _ := defX0 llaw claw klaw
  have BQStand_m___init___2 : ShK K mg "Stand" _ _ ["self", "looks", "came"] 2 [] (fun ds _ => ds) := ⟨⟨_, VStand, ⟨cm_Stand, aStand_m___init__, iStand_m___init__, ck_Stand⟩⟩, bn_pos DStand_m___init__ rfl fun _ _ _ _ _ _ us hl => match us, hl with | [_, _, _], _ => rfl⟩
  have BCfirst_look_4 : ShB K mg "first_look" _ _ ["number", "hand", "moment", "card"] 4 [] (fun ds _ => ds) := ⟨PySem.W.mg_of X G afirst_look, kfirst_look, bn_pos Dfirst_look rfl fun _ _ _ _ _ _ us hl => match us, hl with | [_, _, _, _], _ => rfl⟩
  have BCturned_3 : ShB K mg "turned" _ _ ["look", "name", "thing"] 3 [] (fun ds _ => ds) := ⟨PySem.W.mg_of X G aturned, kturned, bn_pos Dturned rfl fun _ _ _ _ _ _ us hl => match us, hl with | [_, _, _], _ => rfl⟩
  have BCplain_look_1 : ShB K mg "plain_look" _ _ ["look"] 1 [] (fun ds _ => ds) := ⟨PySem.W.mg_of X G aplain_look, kplain_look, bn_pos Dplain_look rfl fun _ _ _ _ _ _ us hl => match us, hl with | [_], _ => rfl⟩
  have BCis_number_3 : ShB K mg "is_number" _ _ ["thing", "low", "high"] 3 [] (fun ds _ => ds) := ⟨PySem.W.mg_of X G ais_number, kis_number, bn_pos Dis_number rfl fun _ _ _ _ _ _ us hl => match us, hl with | [_, _, _], _ => rfl⟩
  have BCis_word_1 : ShB K mg "is_word" _ _ ["thing"] 1 [] (fun ds _ => ds) := ⟨PySem.W.mg_of X G ais_word, kis_word, bn_pos Dis_word rfl fun _ _ _ _ _ _ us hl => match us, hl with | [_], _ => rfl⟩
  have BCis_list_1 : ShB K mg "is_list" _ _ ["thing"] 1 [] (fun ds _ => ds) := ⟨PySem.W.mg_of X G ais_list, kis_list, bn_pos Dis_list rfl fun _ _ _ _ _ _ us hl => match us, hl with | [_], _ => rfl⟩
  have BCform_of_2 : ShB K mg "form_of" _ _ ["sort", "first"] 2 [] (fun ds _ => ds) := ⟨PySem.W.mg_of X G aform_of, kform_of, bn_pos Dform_of rfl fun _ _ _ _ _ _ us hl => match us, hl with | [_, _], _ => rfl⟩
  have BCis_term_2 : ShB K mg "is_term" _ _ ["sort", "thing"] 2 [] (fun ds _ => ds) := ⟨PySem.W.mg_of X G ais_term, kis_term, bn_pos Dis_term rfl fun _ _ _ _ _ _ us hl => match us, hl with | [_, _], _ => rfl⟩
  have BCis_part_3 : ShB K mg "is_part" _ _ ["sort", "thing", "deep"] 3 [] (fun ds _ => ds) := ⟨PySem.W.mg_of X G ais_part, kis_part, bn_pos Dis_part rfl fun _ _ _ _ _ _ us hl => match us, hl with | [_, _, _], _ => rfl⟩
  have BCis_condition_1 : ShB K mg "is_condition" _ _ ["thing", "deep"] 1 [] (fun ds es => pickL [0, 1] (ds ++ ([.int (4)] ++ es))) := ⟨PySem.W.mg_of X G ais_condition, kis_condition, bn_kw Dis_condition (by simp) [0] (by decide) [0, 1] (by decide) rfl fun _ _ _ _ _ _ us mv ws h1 h2 h3 => match us, mv, ws, h1, h2, h3 with | [_], [_], [], _, _, _ => ⟨_, _, _, _, _, _, rfl, rfl,  rfl⟩⟩
  have BCis_condition_1_deep : ShB K mg "is_condition" _ _ ["thing", "deep"] 1 ["deep"] (fun ds es => pickL [0, 1] (ds ++ es)) := ⟨PySem.W.mg_of X G ais_condition, kis_condition, bn_all Dis_condition [0, 1] (by decide) rfl fun _ _ _ _ _ _ us ws h1 h2 => match us, ws, h1, h2 with | [_], [_], _, _ => rfl⟩
  have BCis_change_1 : ShB K mg "is_change" _ _ ["thing", "plain"] 1 [] (fun ds es => pickL [0, 1] (ds ++ ([.bl false] ++ es))) := ⟨PySem.W.mg_of X G ais_change, kis_change, bn_kw Dis_change (by simp) [0] (by decide) [0, 1] (by decide) rfl fun _ _ _ _ _ _ us mv ws h1 h2 h3 => match us, mv, ws, h1, h2, h3 with | [_], [_], [], _, _, _ => ⟨_, _, _, _, _, _, rfl, rfl,  rfl⟩⟩
  have BCis_change_1_plain : ShB K mg "is_change" _ _ ["thing", "plain"] 1 ["plain"] (fun ds es => pickL [0, 1] (ds ++ es)) := ⟨PySem.W.mg_of X G ais_change, kis_change, bn_all Dis_change [0, 1] (by decide) rfl fun _ _ _ _ _ _ us ws h1 h2 => match us, ws, h1, h2 with | [_], [_], _, _ => rfl⟩
  have BCis_writ_1 : ShB K mg "is_writ" _ _ ["thing", "plain"] 1 [] (fun ds es => pickL [0, 1] (ds ++ ([.bl false] ++ es))) := ⟨PySem.W.mg_of X G ais_writ, kis_writ, bn_kw Dis_writ (by simp) [0] (by decide) [0, 1] (by decide) rfl fun _ _ _ _ _ _ us mv ws h1 h2 h3 => match us, mv, ws, h1, h2, h3 with | [_], [_], [], _, _, _ => ⟨_, _, _, _, _, _, rfl, rfl,  rfl⟩⟩
  have BCis_writ_1_plain : ShB K mg "is_writ" _ _ ["thing", "plain"] 1 ["plain"] (fun ds es => pickL [0, 1] (ds ++ es)) := ⟨PySem.W.mg_of X G ais_writ, kis_writ, bn_all Dis_writ [0, 1] (by decide) rfl fun _ _ _ _ _ _ us ws h1 h2 => match us, ws, h1, h2 with | [_], [_], _, _ => rfl⟩
  have BCchanges_in_2 : ShB K mg "changes_in" _ _ ["changes", "layer"] 2 [] (fun ds _ => ds) := ⟨PySem.W.mg_of X G achanges_in, kchanges_in, bn_pos Dchanges_in rfl fun _ _ _ _ _ _ us hl => match us, hl with | [_, _], _ => rfl⟩
  have BCwrits_now_1 : ShB K mg "writs_now" _ _ ["stand"] 1 [] (fun ds _ => ds) := ⟨PySem.W.mg_of X G awrits_now, kwrits_now, bn_pos Dwrits_now rfl fun _ _ _ _ _ _ us hl => match us, hl with | [_], _ => rfl⟩
  have BCstanding_4 : ShB K mg "standing" _ _ ["stand", "layer", "lasting", "begun"] 4 [] (fun ds _ => ds) := ⟨PySem.W.mg_of X G astanding, kstanding, bn_pos Dstanding rfl fun _ _ _ _ _ _ us hl => match us, hl with | [_, _, _, _], _ => rfl⟩
  have BCof_numbers_3 : ShB K mg "of_numbers" _ _ ["look", "first", "rest"] 3 [] (fun ds _ => ds) := ⟨PySem.W.mg_of X G aof_numbers, kof_numbers, bn_pos Dof_numbers rfl fun _ _ _ _ _ _ us hl => match us, hl with | [_, _, _], _ => rfl⟩
  have BCmarked_2 : ShB K mg "marked" _ _ ["stand", "marks"] 2 [] (fun ds _ => ds) := ⟨PySem.W.mg_of X G amarked, kmarked, bn_pos Dmarked rfl fun _ _ _ _ _ _ us hl => match us, hl with | [_, _], _ => rfl⟩
  have BQCourse_m___init___4 : ShK K mg "Course" _ _ ["self", "stand", "moments", "marks", "lasting"] 4 [] (fun ds _ => ds) := ⟨⟨_, VCourse, ⟨cm_Course, aCourse_m___init__, iCourse_m___init__, ck_Course⟩⟩, bn_pos DCourse_m___init__ rfl fun _ _ _ _ _ _ us hl => match us, hl with | [_, _, _, _, _], _ => rfl⟩
  have BMCourse_m_left_in_2 : ShM K mg "Course" "left_in" _ _ ["self", "layer", "gone"] 2 [] (fun ds _ => ds) := ⟨⟨_, VCourse, ⟨aCourse_m_left_in, iCourse_m_left_in, kCourse_m_left_in⟩⟩, bn_pos DCourse_m_left_in rfl fun _ _ _ _ _ _ us hl => match us, hl with | [_, _, _], _ => rfl⟩
  have BMCourse_m_waits_in_2 : ShM K mg "Course" "waits_in" _ _ ["self", "layer", "gone"] 2 [] (fun ds _ => ds) := ⟨⟨_, VCourse, ⟨aCourse_m_waits_in, iCourse_m_waits_in, kCourse_m_waits_in⟩⟩, bn_pos DCourse_m_waits_in rfl fun _ _ _ _ _ _ us hl => match us, hl with | [_, _, _], _ => rfl⟩
  have BMCourse_m_count_marks_0 : ShM K mg "Course" "count_marks" _ _ ["self"] 0 [] (fun ds _ => ds) := ⟨⟨_, VCourse, ⟨aCourse_m_count_marks, iCourse_m_count_marks, kCourse_m_count_marks⟩⟩, bn_pos DCourse_m_count_marks rfl fun _ _ _ _ _ _ us hl => match us, hl with | [_], _ => rfl⟩
  have BMCourse_m_go_on_2 : ShM K mg "Course" "go_on" _ _ ["self", "layer", "waits"] 2 [] (fun ds _ => ds) := ⟨⟨_, VCourse, ⟨aCourse_m_go_on, iCourse_m_go_on, kCourse_m_go_on⟩⟩, bn_pos DCourse_m_go_on rfl fun _ _ _ _ _ _ us hl => match us, hl with | [_, _, _], _ => rfl⟩
  have BCbegun_course_2 : ShB K mg "begun_course" _ _ ["things", "lasting"] 2 [] (fun ds _ => ds) := ⟨PySem.W.mg_of X G abegun_course, kbegun_course, bn_pos Dbegun_course rfl fun _ _ _ _ _ _ us hl => match us, hl with | [_, _], _ => rfl⟩
  have BCtold_looks_1 : ShB K mg "told_looks" _ _ ["stand"] 1 [] (fun ds _ => ds) := ⟨PySem.W.mg_of X G atold_looks, ktold_looks, bn_pos Dtold_looks rfl fun _ _ _ _ _ _ us hl => match us, hl with | [_], _ => rfl⟩
  have BQSheet_m___init___1_lasting : ShK K mg "Sheet" _ _ ["self", "things", "lasting"] 1 ["lasting"] (fun ds es => pickL [0, 1, 2] (ds ++ es)) := ⟨⟨_, VSheet, ⟨cm_Sheet, aSheet_m___init__, iSheet_m___init__, ck_Sheet⟩⟩, bn_all DSheet_m___init__ [0, 1, 2] (by decide) rfl fun _ _ _ _ _ _ us ws h1 h2 => match us, ws, h1, h2 with | [_, _], [_], _, _ => rfl⟩
  have BMSheet_m_go_through_2 : ShM K mg "Sheet" "go_through" _ _ ["self", "course", "layer"] 2 [] (fun ds _ => ds) := ⟨⟨_, VSheet, ⟨aSheet_m_go_through, iSheet_m_go_through, kSheet_m_go_through⟩⟩, bn_pos DSheet_m_go_through rfl fun _ _ _ _ _ _ us hl => match us, hl with | [_, _, _], _ => rfl⟩
  have BMSheet_m_looks_0 : ShM K mg "Sheet" "looks" _ _ ["self"] 0 [] (fun ds _ => ds) := ⟨⟨_, VSheet, ⟨aSheet_m_looks, iSheet_m_looks, kSheet_m_looks⟩⟩, bn_pos DSheet_m_looks rfl fun _ _ _ _ _ _ us hl => match us, hl with | [_], _ => rfl⟩
  have BMSheet_m_steps_0 : ShM K mg "Sheet" "steps" _ _ ["self"] 0 [] (fun ds _ => ds) := ⟨⟨_, VSheet, ⟨aSheet_m_steps, iSheet_m_steps, kSheet_m_steps⟩⟩, bn_pos DSheet_m_steps rfl fun _ _ _ _ _ _ us hl => match us, hl with | [_], _ => rfl⟩
  have BCon_board_1 : ShB K mg "on_board" _ _ ["things"] 1 [] (fun ds _ => ds) := ⟨PySem.W.mg_of X G aon_board, kon_board, bn_pos Don_board rfl fun _ _ _ _ _ _ us hl => match us, hl with | [_], _ => rfl⟩
  have BCsheet_of_1 : ShB K mg "sheet_of" _ _ ["now"] 1 [] (fun ds _ => ds) := ⟨PySem.W.mg_of X G asheet_of, ksheet_of, bn_pos Dsheet_of rfl fun _ _ _ _ _ _ us hl => match us, hl with | [_], _ => rfl⟩
  have BCneed_thing_2 : ShB K mg "need_thing" _ _ ["now", "number"] 2 [] (fun ds _ => ds) := ⟨PySem.W.mg_of X G aneed_thing, kneed_thing, bn_pos Dneed_thing rfl fun _ _ _ _ _ _ us hl => match us, hl with | [_, _], _ => rfl⟩
  have BCthere_1 : ShB K mg "there" _ _ ["now"] 1 [] (fun ds _ => ds) := ⟨PySem.W.mg_of X G athere, kthere, bn_pos Dthere rfl fun _ _ _ _ _ _ us hl => match us, hl with | [_], _ => rfl⟩
  have BQTable_m___init___0 : ShK K mg "Table" _ _ ["self", "hands"] 0 [] (fun ds es => pickL [0, 1] (ds ++ ([.int (2)] ++ es))) := ⟨⟨_, VTable, ⟨cm_Table, aTable_m___init__, iTable_m___init__, ck_Table⟩⟩, bn_kw DTable_m___init__ (by simp) [0] (by decide) [0, 1] (by decide) rfl fun _ _ _ _ _ _ us mv ws h1 h2 h3 => match us, mv, ws, h1, h2, h3 with | [_], [_], [], _, _, _ => ⟨_, _, _, _, _, _, rfl, rfl,  rfl⟩⟩
  have BQTable_m___init___0_hands : ShK K mg "Table" _ _ ["self", "hands"] 0 ["hands"] (fun ds es => pickL [0, 1] (ds ++ es)) := ⟨⟨_, VTable, ⟨cm_Table, aTable_m___init__, iTable_m___init__, ck_Table⟩⟩, bn_all DTable_m___init__ [0, 1] (by decide) rfl fun _ _ _ _ _ _ us ws h1 h2 => match us, ws, h1, h2 with | [_], [_], _, _ => rfl⟩
  have BMTable_m___eq___1 : ShM K mg "Table" "__eq__" _ _ ["self", "other"] 1 [] (fun ds _ => ds) := ⟨⟨_, VTable, ⟨aTable_m___eq__, iTable_m___eq__, kTable_m___eq__⟩⟩, bn_pos DTable_m___eq__ rfl fun _ _ _ _ _ _ us hl => match us, hl with | [_, _], _ => rfl⟩
  have BMTable_m___len___0 : ShM K mg "Table" "__len__" _ _ ["self"] 0 [] (fun ds _ => ds) := ⟨⟨_, VTable, ⟨aTable_m___len__, iTable_m___len__, kTable_m___len__⟩⟩, bn_pos DTable_m___len__ rfl fun _ _ _ _ _ _ us hl => match us, hl with | [_], _ => rfl⟩
  have BMTable_m___repr___0 : ShM K mg "Table" "__repr__" _ _ ["self"] 0 [] (fun ds _ => ds) := ⟨⟨_, VTable, ⟨aTable_m___repr__, iTable_m___repr__, kTable_m___repr__⟩⟩, bn_pos DTable_m___repr__ rfl fun _ _ _ _ _ _ us hl => match us, hl with | [_], _ => rfl⟩
  have BMTable_m_stand_so_1 : ShM K mg "Table" "stand_so" _ _ ["self", "now"] 1 [] (fun ds _ => ds) := ⟨⟨_, VTable, ⟨aTable_m_stand_so, iTable_m_stand_so, kTable_m_stand_so⟩⟩, bn_pos DTable_m_stand_so rfl fun _ _ _ _ _ _ us hl => match us, hl with | [_, _], _ => rfl⟩
  have BMTable_m_undo_0 : ShM K mg "Table" "undo" _ _ ["self"] 0 [] (fun ds _ => ds) := ⟨⟨_, VTable, ⟨aTable_m_undo, iTable_m_undo, kTable_m_undo⟩⟩, bn_pos DTable_m_undo rfl fun _ _ _ _ _ _ us hl => match us, hl with | [_], _ => rfl⟩
  have BMTable_m_redo_0 : ShM K mg "Table" "redo" _ _ ["self"] 0 [] (fun ds _ => ds) := ⟨⟨_, VTable, ⟨aTable_m_redo, iTable_m_redo, kTable_m_redo⟩⟩, bn_pos DTable_m_redo rfl fun _ _ _ _ _ _ us hl => match us, hl with | [_], _ => rfl⟩
  have BMTable_m_done_0 : ShM K mg "Table" "done" _ _ ["self"] 0 [] (fun ds _ => ds) := ⟨⟨_, VTable, ⟨aTable_m_done, iTable_m_done, kTable_m_done⟩⟩, bn_pos DTable_m_done rfl fun _ _ _ _ _ _ us hl => match us, hl with | [_], _ => rfl⟩
  have BMTable_m_busy_0 : ShM K mg "Table" "busy" _ _ ["self"] 0 [] (fun ds _ => ds) := ⟨⟨_, VTable, ⟨aTable_m_busy, iTable_m_busy, kTable_m_busy⟩⟩, bn_pos DTable_m_busy rfl fun _ _ _ _ _ _ us hl => match us, hl with | [_], _ => rfl⟩
  have BMTable_m_sheet_0 : ShM K mg "Table" "sheet" _ _ ["self"] 0 [] (fun ds _ => ds) := ⟨⟨_, VTable, ⟨aTable_m_sheet, iTable_m_sheet, kTable_m_sheet⟩⟩, bn_pos DTable_m_sheet rfl fun _ _ _ _ _ _ us hl => match us, hl with | [_], _ => rfl⟩
  have BMTable_m_thing_1 : ShM K mg "Table" "thing" _ _ ["self", "number"] 1 [] (fun ds _ => ds) := ⟨⟨_, VTable, ⟨aTable_m_thing, iTable_m_thing, kTable_m_thing⟩⟩, bn_pos DTable_m_thing rfl fun _ _ _ _ _ _ us hl => match us, hl with | [_, _], _ => rfl⟩
  have BMTable_m_things_0 : ShM K mg "Table" "things" _ _ ["self", "place"] 0 [] (fun ds es => pickL [0, 1] (ds ++ ([.str "board"] ++ es))) := ⟨⟨_, VTable, ⟨aTable_m_things, iTable_m_things, kTable_m_things⟩⟩, bn_dfl DTable_m_things (by simp) [0, 1] (by decide) rfl fun _ _ _ _ _ _ _ us its ws h1 h2 h3 => match us, its, ws, h1, h2, h3 with | [_], [_], [], _, _, _ => ⟨_, rfl, rfl⟩⟩
  have BMTable_m_things_0_place : ShM K mg "Table" "things" _ _ ["self", "place"] 0 ["place"] (fun ds es => pickL [0, 2] (ds ++ ([.str "board"] ++ es))) := ⟨⟨_, VTable, ⟨aTable_m_things, iTable_m_things, kTable_m_things⟩⟩, bn_dfl DTable_m_things (by simp) [0, 2] (by decide) rfl fun _ _ _ _ _ _ _ us its ws h1 h2 h3 => match us, its, ws, h1, h2, h3 with | [_], [_], [_], _, _, _ => ⟨_, rfl, rfl⟩⟩
  have BMTable_m_things_1 : ShM K mg "Table" "things" _ _ ["self", "place"] 1 [] (fun ds es => pickL [0, 1] (ds ++ ([.str "board"] ++ es))) := ⟨⟨_, VTable, ⟨aTable_m_things, iTable_m_things, kTable_m_things⟩⟩, bn_dfl DTable_m_things (by simp) [0, 1] (by decide) rfl fun _ _ _ _ _ _ _ us its ws h1 h2 h3 => match us, its, ws, h1, h2, h3 with | [_, _], [_], [], _, _, _ => ⟨_, rfl, rfl⟩⟩
  have BMTable_m_lasting_0 : ShM K mg "Table" "lasting" _ _ ["self"] 0 [] (fun ds _ => ds) := ⟨⟨_, VTable, ⟨aTable_m_lasting, iTable_m_lasting, kTable_m_lasting⟩⟩, bn_pos DTable_m_lasting rfl fun _ _ _ _ _ _ us hl => match us, hl with | [_], _ => rfl⟩
  have BMTable_m_hands_0 : ShM K mg "Table" "hands" _ _ ["self"] 0 [] (fun ds _ => ds) := ⟨⟨_, VTable, ⟨aTable_m_hands, iTable_m_hands, kTable_m_hands⟩⟩, bn_pos DTable_m_hands rfl fun _ _ _ _ _ _ us hl => match us, hl with | [_], _ => rfl⟩
  have BMTable_m_rounds_0 : ShM K mg "Table" "rounds" _ _ ["self"] 0 [] (fun ds _ => ds) := ⟨⟨_, VTable, ⟨aTable_m_rounds, iTable_m_rounds, kTable_m_rounds⟩⟩, bn_pos DTable_m_rounds rfl fun _ _ _ _ _ _ us hl => match us, hl with | [_], _ => rfl⟩
  have BC_law_bag_1 : ShB K mg "_law_bag" _ _ ["_law_script"] 1 [] (fun ds _ => ds) := ⟨PySem.W.mg_of X G a_law_bag, k_law_bag, bn_pos D_law_bag rfl fun _ _ _ _ _ _ us hl => match us, hl with | [_], _ => rfl⟩
  have BC_law_get_2 : ShB K mg "_law_get" _ _ ["_law_bag_here", "_law_size"] 2 [] (fun ds _ => ds) := ⟨PySem.W.mg_of X G a_law_get, k_law_get, bn_pos D_law_get rfl fun _ _ _ _ _ _ us hl => match us, hl with | [_, _], _ => rfl⟩
  have BC_law_same_2 : ShB K mg "_law_same" _ _ ["_law_found", "_law_due"] 2 [] (fun ds _ => ds) := ⟨PySem.W.mg_of X G a_law_same, k_law_same, bn_pos D_law_same rfl fun _ _ _ _ _ _ us hl => match us, hl with | [_, _], _ => rfl⟩
  have BC_law_now_1 : ShB K mg "_law_now" _ _ ["_law_count"] 1 [] (fun ds _ => ds) := ⟨PySem.W.mg_of X G a_law_now, k_law_now, bn_pos D_law_now rfl fun _ _ _ _ _ _ us hl => match us, hl with | [_], _ => rfl⟩
  have BC_law_stands_so_2 : ShB K mg "_law_stands_so" _ _ ["_law_table_now", "_law_now_here"] 2 [] (fun ds _ => ds) := ⟨PySem.W.mg_of X G a_law_stands_so, k_law_stands_so, bn_pos D_law_stands_so rfl fun _ _ _ _ _ _ us hl => match us, hl with | [_, _], _ => rfl⟩
  intro own
  refine law_atG X own rfl hfa llaw rfl rfl q_h q_n (fun s v => .of_eq rfl) (fun base _ _ LC => ?_) main
  have OStand_m___init__ := okStand_m___init__ (P := l.prog) (w := w) (base := base) T DStand_m___init__
  have QStand_m___init___2 := BQStand_m___init___2.mak OStand_m___init__
  have Ofirst_look := okfirst_look (P := l.prog) (w := w) (base := base) T Dfirst_look
  have Cfirst_look_4 := BCfirst_look_4.cal Ofirst_look
  have Oturned := okturned (P := l.prog) (w := w) (base := base) T Dturned
  have Cturned_3 := BCturned_3.cal Oturned
  have Oplain_look := okplain_look (P := l.prog) (w := w) (base := base) T Dplain_look Cturned_3
  have Cplain_look_1 := BCplain_look_1.cal Oplain_look
  have Ois_number := okis_number (P := l.prog) (w := w) (base := base) T Dis_number
  have Cis_number_3 := BCis_number_3.cal Ois_number
  have Ois_word := okis_word (P := l.prog) (w := w) (base := base) T Dis_word
  have Cis_word_1 := BCis_word_1.cal Ois_word
  have Ois_list := okis_list (P := l.prog) (w := w) (base := base) T Dis_list Cis_word_1
  have Cis_list_1 := BCis_list_1.cal Ois_list
  have Oform_of := okform_of (P := l.prog) (w := w) (base := base) T Dform_of
  have Cform_of_2 := BCform_of_2.cal Oform_of
  have Ois_term := okis_term (P := l.prog) (w := w) (base := base) T Dis_term Cform_of_2
  have Cis_term_2 := BCis_term_2.cal Ois_term
  have Ois_writ := okis_writ (P := l.prog) (w := w) (base := base) T Dis_writ
  have Cis_writ_1 := BCis_writ_1.cal Ois_writ
  have Cis_writ_1_plain := BCis_writ_1_plain.cal Ois_writ
  obtain ⟨Ois_part, Ois_condition, Ois_change⟩ := okis_part (P := l.prog) (w := w) (base := base) T Dis_part Dis_condition Dis_change BCis_part_3 BCis_condition_1_deep BCis_change_1_plain Cis_number_3 Cis_word_1 Cis_list_1 Cis_term_2 Cis_writ_1_plain
  have Cis_part_3 := BCis_part_3.cal Ois_part
  have Cis_condition_1 := BCis_condition_1.cal Ois_condition
  have Cis_condition_1_deep := BCis_condition_1_deep.cal Ois_condition
  have Cis_change_1 := BCis_change_1.cal Ois_change
  have Cis_change_1_plain := BCis_change_1_plain.cal Ois_change
  have Ochanges_in := okchanges_in (P := l.prog) (w := w) (base := base) T Dchanges_in
  have Cchanges_in_2 := BCchanges_in_2.cal Ochanges_in
  have Owrits_now := okwrits_now (P := l.prog) (w := w) (base := base) T Dwrits_now
  have Cwrits_now_1 := BCwrits_now_1.cal Owrits_now
  have Ostanding := okstanding (P := l.prog) (w := w) (base := base) T Dstanding Cchanges_in_2 Cwrits_now_1
  have Cstanding_4 := BCstanding_4.cal Ostanding
  have Oof_numbers := okof_numbers (P := l.prog) (w := w) (base := base) T Dof_numbers Cturned_3
  have Cof_numbers_3 := BCof_numbers_3.cal Oof_numbers
  have Omarked := okmarked (P := l.prog) (w := w) (base := base) T Dmarked QStand_m___init___2 Cof_numbers_3
  have Cmarked_2 := BCmarked_2.cal Omarked
  have OCourse_m___init__ := okCourse_m___init__ (P := l.prog) (w := w) (base := base) T DCourse_m___init__
  have QCourse_m___init___4 := BQCourse_m___init___4.mak OCourse_m___init__
  have OCourse_m_left_in := okCourse_m_left_in (P := l.prog) (w := w) (base := base) T DCourse_m_left_in Cstanding_4
  have MCourse_m_left_in_2 := BMCourse_m_left_in_2.mth OCourse_m_left_in
  have OCourse_m_waits_in := okCourse_m_waits_in (P := l.prog) (w := w) (base := base) T DCourse_m_waits_in
  have MCourse_m_waits_in_2 := BMCourse_m_waits_in_2.mth OCourse_m_waits_in
  have OCourse_m_count_marks := okCourse_m_count_marks (P := l.prog) (w := w) (base := base) T DCourse_m_count_marks Cmarked_2
  have MCourse_m_count_marks_0 := BMCourse_m_count_marks_0.mth OCourse_m_count_marks
  have OCourse_m_go_on := okCourse_m_go_on (P := l.prog) (w := w) (base := base) T DCourse_m_go_on
  have MCourse_m_go_on_2 := BMCourse_m_go_on_2.mth OCourse_m_go_on
  have Obegun_course := okbegun_course (P := l.prog) (w := w) (base := base) T Dbegun_course QStand_m___init___2 Cfirst_look_4 QCourse_m___init___4
  have Cbegun_course_2 := BCbegun_course_2.cal Obegun_course
  have Otold_looks := oktold_looks (P := l.prog) (w := w) (base := base) T Dtold_looks Cplain_look_1
  have Ctold_looks_1 := BCtold_looks_1.cal Otold_looks
  have OSheet_m_go_through := okSheet_m_go_through (P := l.prog) (w := w) (base := base) T DSheet_m_go_through MCourse_m_left_in_2 MCourse_m_waits_in_2 MCourse_m_count_marks_0 MCourse_m_go_on_2
  have MSheet_m_go_through_2 := BMSheet_m_go_through_2.mth OSheet_m_go_through
  have OSheet_m___init__ := okSheet_m___init__ (P := l.prog) (w := w) (base := base) T DSheet_m___init__ Cbegun_course_2 MSheet_m_go_through_2
  have QSheet_m___init___1_lasting := BQSheet_m___init___1_lasting.mak OSheet_m___init__
  have OSheet_m_looks := okSheet_m_looks (P := l.prog) (w := w) (base := base) T DSheet_m_looks Ctold_looks_1
  have MSheet_m_looks_0 := BMSheet_m_looks_0.mth OSheet_m_looks
  have OSheet_m_steps := okSheet_m_steps (P := l.prog) (w := w) (base := base) T DSheet_m_steps
  have MSheet_m_steps_0 := BMSheet_m_steps_0.mth OSheet_m_steps
  have Oon_board := okon_board (P := l.prog) (w := w) (base := base) T Don_board
  have Con_board_1 := BCon_board_1.cal Oon_board
  have Osheet_of := oksheet_of (P := l.prog) (w := w) (base := base) T Dsheet_of QSheet_m___init___1_lasting Con_board_1
  have Csheet_of_1 := BCsheet_of_1.cal Osheet_of
  have Oneed_thing := okneed_thing (P := l.prog) (w := w) (base := base) T Dneed_thing Cis_part_3
  have Cneed_thing_2 := BCneed_thing_2.cal Oneed_thing
  have Othere := okthere (P := l.prog) (w := w) (base := base) T Dthere
  have Cthere_1 := BCthere_1.cal Othere
  have OTable_m___init__ := okTable_m___init__ (P := l.prog) (w := w) (base := base) T DTable_m___init__ Cis_number_3
  have QTable_m___init___0 := BQTable_m___init___0.mak OTable_m___init__
  have QTable_m___init___0_hands := BQTable_m___init___0_hands.mak OTable_m___init__
  have OTable_m___eq__ := okTable_m___eq__ (P := l.prog) (w := w) (base := base) T DTable_m___eq__
  have MTable_m___eq___1 := BMTable_m___eq___1.mth OTable_m___eq__
  have OTable_m___len__ := okTable_m___len__ (P := l.prog) (w := w) (base := base) T DTable_m___len__ Cthere_1
  have MTable_m___len___0 := BMTable_m___len___0.mth OTable_m___len__
  have OTable_m___repr__ := okTable_m___repr__ (P := l.prog) (w := w) (base := base) T DTable_m___repr__ Cthere_1
  have MTable_m___repr___0 := BMTable_m___repr___0.mth OTable_m___repr__
  have OTable_m_stand_so := okTable_m_stand_so (P := l.prog) (w := w) (base := base) T DTable_m_stand_so
  have MTable_m_stand_so_1 := BMTable_m_stand_so_1.mth OTable_m_stand_so
  have OTable_m_undo := okTable_m_undo (P := l.prog) (w := w) (base := base) T DTable_m_undo MTable_m_stand_so_1
  have MTable_m_undo_0 := BMTable_m_undo_0.mth OTable_m_undo
  have OTable_m_redo := okTable_m_redo (P := l.prog) (w := w) (base := base) T DTable_m_redo MTable_m_stand_so_1
  have MTable_m_redo_0 := BMTable_m_redo_0.mth OTable_m_redo
  have OTable_m_done := okTable_m_done (P := l.prog) (w := w) (base := base) T DTable_m_done
  have MTable_m_done_0 := BMTable_m_done_0.mth OTable_m_done
  have OTable_m_busy := okTable_m_busy (P := l.prog) (w := w) (base := base) T DTable_m_busy
  have MTable_m_busy_0 := BMTable_m_busy_0.mth OTable_m_busy
  have OTable_m_sheet := okTable_m_sheet (P := l.prog) (w := w) (base := base) T DTable_m_sheet Csheet_of_1
  have MTable_m_sheet_0 := BMTable_m_sheet_0.mth OTable_m_sheet
  have OTable_m_thing := okTable_m_thing (P := l.prog) (w := w) (base := base) T DTable_m_thing Cneed_thing_2
  have MTable_m_thing_1 := BMTable_m_thing_1.mth OTable_m_thing
  have OTable_m_things := okTable_m_things (P := l.prog) (w := w) (base := base) T DTable_m_things
  have MTable_m_things_0 := BMTable_m_things_0.mth OTable_m_things
  have MTable_m_things_0_place := BMTable_m_things_0_place.mth OTable_m_things
  have MTable_m_things_1 := BMTable_m_things_1.mth OTable_m_things
  have OTable_m_lasting := okTable_m_lasting (P := l.prog) (w := w) (base := base) T DTable_m_lasting
  have MTable_m_lasting_0 := BMTable_m_lasting_0.mth OTable_m_lasting
  have OTable_m_hands := okTable_m_hands (P := l.prog) (w := w) (base := base) T DTable_m_hands
  have MTable_m_hands_0 := BMTable_m_hands_0.mth OTable_m_hands
  have OTable_m_rounds := okTable_m_rounds (P := l.prog) (w := w) (base := base) T DTable_m_rounds
  have MTable_m_rounds_0 := BMTable_m_rounds_0.mth OTable_m_rounds
  have O_law_bag := ok_law_bag (P := l.prog) (w := w) (base := base) T D_law_bag
  have C_law_bag_1 := BC_law_bag_1.cal O_law_bag
  have O_law_get := ok_law_get (P := l.prog) (w := w) (base := base) T D_law_get
  have C_law_get_2 := BC_law_get_2.cal O_law_get
  have O_law_same := ok_law_same (P := l.prog) (w := w) (base := base) T D_law_same BC_law_same_2
  have C_law_same_2 := BC_law_same_2.cal O_law_same
  have C_law_ask := ok_law_ask T F_law_ask
  have O_law_now := ok_law_now (P := l.prog) (w := w) (base := base) T D_law_now
  have C_law_now_1 := BC_law_now_1.cal O_law_now
  have O_law_stands_so := ok_law_stands_so (P := l.prog) (w := w) (base := base) T D_law_stands_so MTable_m___len___0 MTable_m_busy_0 MTable_m_thing_1 MTable_m_things_0 MTable_m_things_0_place MTable_m_things_1 MTable_m_lasting_0 MTable_m_hands_0 MTable_m_rounds_0 C_law_same_2
  have C_law_stands_so_2 := BC_law_stands_so_2.cal O_law_stands_so
  exact oklaw (P := l.prog) (w := w) (base := base) T Dlaw MSheet_m_looks_0 MSheet_m_steps_0 QTable_m___init___0 QTable_m___init___0_hands MTable_m___eq___1 MTable_m___repr___0 MTable_m_undo_0 MTable_m_redo_0 MTable_m_done_0 MTable_m_sheet_0 C_law_bag_1 C_law_get_2 C_law_same_2 C_law_now_1 C_law_stands_so_2 C_law_ask LC
end Law
open PySem PySem.W PyProof.Rows in
set_option maxRecDepth 100000 in
set_option maxHeartbeats 0 in
theorem PySem.Challenge.cw_standwrit_k25_tables_begun_holds : PySem.Challenge.rw_standwrit_k25_tables_begun.Holds := by
  w_on; o_law
  refine holds_open (q := Hd.vw) (loose := Hd.loose) (Xt := Hd.Xt) (XP := XL Hd.vw []) (Yf := Hook.obs (kHook Hd.ka.heap_1 Hd.ka.a Hd.ka.e)) (Ya := Hook.val (kHook Hd.ka.heap_1 Hd.ka.a Hd.ka.e)) (YP := Hook.says (kHook Hd.ka.heap_1 Hd.ka.a Hd.ka.e)) (N := 11467) Hd.left (Hook.of _) (Hook.keeps _) (fun s e => xl_of s (Bool.and_eq_true_iff.mp e).1) XL.keeps (by rfl) (by rfl) (by rfl) (fun s e => recFacts_of (Bool.and_eq_true_iff.mp e).2) (by rfl) (by first | assumption | decide +kernel) (by decide +kernel) ⟨rfl, rfl, rfl, rfl, rfl, by decide +kernel⟩ ?hw ?hc
  (case hw => w_witness2)
  k_fill
  refine DD.walkTG (l := PySem.Challenge.rw_standwrit_k25_tables_begun) (k := 43) (x := "_law_script") rfl rfl (DD.room_caller ⟨rfl, by decide, by decide⟩) (by decide +kernel) (fun w h Y => PySem.W.kIn_of Y) ?F
  case F =>
    intro w mg fa h KX G hmg own
    refine' Law.all_mk KX G hmg ?cg_Course ?cp_Course ?ch_Course ?co_Course ?cs_Course ?cn_Course_begun ?cn_Course_lasts ?cn_Course_marks ?cn_Course_moments ?cn_Course_stand ?cn_Course_told_steps ?cm_Course ?ck_Course ?cg_Run ?cp_Run ?ch_Run ?co_Run ?cs_Run ?cn_Run_acts ?cn_Run_now ?cn_Run_order ?cn_Run_seen ?cn_Run_stack ?cn_Run_story ?cg_Sheet ?cp_Sheet ?ch_Sheet ?co_Sheet ?cs_Sheet ?cn_Sheet_stands ?cn_Sheet_steps_done ?cn_Sheet_waits_told ?cm_Sheet ?ck_Sheet ?cg_Stand ?cp_Stand ?ch_Stand ?co_Stand ?cs_Stand ?cn_Stand_came ?cn_Stand_shown ?cm_Stand ?ck_Stand ?cg_Table ?cp_Table ?ch_Table ?co_Table ?cs_Table ?cn_Table_at_work ?cn_Table_kept ?cn_Table_later ?cn_Table_now ?cn_Table_past ?cm_Table ?ck_Table ?aStand_m___init__ ?iStand_m___init__ ?lStand_m___init__ ?cStand_m___init__ ?kStand_m___init__ ?afirst_look ?lfirst_look ?cfirst_look ?kfirst_look ?aturned ?lturned ?cturned ?kturned ?aplain_look ?lplain_look ?cplain_look ?kplain_look ?ais_number ?lis_number ?cis_number ?kis_number ?ais_word ?lis_word ?cis_word ?kis_word ?ais_list ?lis_list ?cis_list ?kis_list ?aform_of ?lform_of ?cform_of ?kform_of ?ais_term ?lis_term ?cis_term ?kis_term ?ais_part ?lis_part ?cis_part ?kis_part ?ais_condition ?lis_condition ?cis_condition ?kis_condition ?d0is_condition ?ais_change ?lis_change ?cis_change ?kis_change ?d0is_change ?ais_writ ?lis_writ ?cis_writ ?kis_writ ?d0is_writ ?achanges_in ?lchanges_in ?cchanges_in ?kchanges_in ?awrits_now ?lwrits_now ?cwrits_now ?kwrits_now ?astanding ?lstanding ?cstanding ?kstanding ?aof_numbers ?lof_numbers ?cof_numbers ?kof_numbers ?amarked ?lmarked ?cmarked ?kmarked ?aCourse_m___init__ ?iCourse_m___init__ ?lCourse_m___init__ ?cCourse_m___init__ ?kCourse_m___init__ ?aCourse_m_left_in ?iCourse_m_left_in ?lCourse_m_left_in ?cCourse_m_left_in ?kCourse_m_left_in ?aCourse_m_waits_in ?iCourse_m_waits_in ?lCourse_m_waits_in ?cCourse_m_waits_in ?kCourse_m_waits_in ?aCourse_m_count_marks ?iCourse_m_count_marks ?lCourse_m_count_marks ?cCourse_m_count_marks ?kCourse_m_count_marks ?aCourse_m_go_on ?iCourse_m_go_on ?lCourse_m_go_on ?cCourse_m_go_on ?kCourse_m_go_on ?abegun_course ?lbegun_course ?cbegun_course ?kbegun_course ?atold_looks ?ltold_looks ?ctold_looks ?ktold_looks ?aSheet_m___init__ ?iSheet_m___init__ ?lSheet_m___init__ ?cSheet_m___init__ ?kSheet_m___init__ ?d0Sheet_m___init__ ?z_kw0Sheet_m___init__ ?aSheet_m_go_through ?iSheet_m_go_through ?lSheet_m_go_through ?cSheet_m_go_through ?kSheet_m_go_through ?aSheet_m_looks ?iSheet_m_looks ?lSheet_m_looks ?cSheet_m_looks ?kSheet_m_looks ?aSheet_m_steps ?iSheet_m_steps ?lSheet_m_steps ?cSheet_m_steps ?kSheet_m_steps ?aon_board ?lon_board ?con_board ?kon_board ?asheet_of ?lsheet_of ?csheet_of ?ksheet_of ?aneed_thing ?lneed_thing ?cneed_thing ?kneed_thing ?athere ?lthere ?cthere ?kthere ?aTable_m___init__ ?iTable_m___init__ ?lTable_m___init__ ?cTable_m___init__ ?kTable_m___init__ ?d0Table_m___init__ ?aTable_m___eq__ ?iTable_m___eq__ ?lTable_m___eq__ ?cTable_m___eq__ ?kTable_m___eq__ ?aTable_m___len__ ?iTable_m___len__ ?lTable_m___len__ ?cTable_m___len__ ?kTable_m___len__ ?aTable_m___repr__ ?iTable_m___repr__ ?lTable_m___repr__ ?cTable_m___repr__ ?kTable_m___repr__ ?aTable_m_stand_so ?iTable_m_stand_so ?lTable_m_stand_so ?cTable_m_stand_so ?kTable_m_stand_so ?aTable_m_undo ?iTable_m_undo ?lTable_m_undo ?cTable_m_undo ?kTable_m_undo ?aTable_m_redo ?iTable_m_redo ?lTable_m_redo ?cTable_m_redo ?kTable_m_redo ?aTable_m_done ?iTable_m_done ?lTable_m_done ?cTable_m_done ?kTable_m_done ?aTable_m_busy ?iTable_m_busy ?lTable_m_busy ?cTable_m_busy ?kTable_m_busy ?aTable_m_sheet ?iTable_m_sheet ?lTable_m_sheet ?cTable_m_sheet ?kTable_m_sheet ?aTable_m_thing ?iTable_m_thing ?lTable_m_thing ?cTable_m_thing ?kTable_m_thing ?aTable_m_things ?iTable_m_things ?lTable_m_things ?cTable_m_things ?kTable_m_things ?dtTable_m_things ?aTable_m_lasting ?iTable_m_lasting ?lTable_m_lasting ?cTable_m_lasting ?kTable_m_lasting ?aTable_m_hands ?iTable_m_hands ?lTable_m_hands ?cTable_m_hands ?kTable_m_hands ?aTable_m_rounds ?iTable_m_rounds ?lTable_m_rounds ?cTable_m_rounds ?kTable_m_rounds ?a_law_bag ?l_law_bag ?c_law_bag ?k_law_bag ?a_law_get ?l_law_get ?c_law_get ?k_law_get ?a_law_same ?l_law_same ?c_law_same ?k_law_same ?a_law_ask ?l_law_ask ?c_law_ask ?k_law_ask ?a_law_now ?l_law_now ?c_law_now ?k_law_now ?a_law_stands_so ?l_law_stands_so ?c_law_stands_so ?k_law_stands_so ?alaw ?llaw ?claw ?klaw ?b_all ?b_any ?b_bool ?b_dict ?b_enumerate ?b_int ?b_isinstance ?b_len ?b_list ?b_range ?b_repr ?b_set ?b_sorted ?b_str ?b_tuple ?b_zip ?c_CAME ?c_LAYERS ?c_LETTERS ?c_LONGEST ?c_MARKED ?c_MOST_CHANGES ?c_MOST_DEEP ?c_MOST_HANDS ?c_MOST_NUMBER ?c_MOST_ON_BOARD ?c_MOST_WORDS ?c_MOST_WRITS ?c_PLACES ?z_PLACES ?c_ACTS ?e_ACTS ?w_ACTS ?c_CHANGES ?e_CHANGES ?w_CHANGES ?c_CONDITIONS ?e_CONDITIONS ?w_CONDITIONS ?c_LAYER_OF ?e_LAYER_OF ?w_LAYER_OF ?c_LEAVES ?e_LEAVES ?w_LEAVES ?c_LETS ?e_LETS ?w_LETS ?z_LETS_0 ?z_LETS_1 ?z_LETS_2 ?z_LETS_3 ?c_SIZES ?e_SIZES ?w_SIZES ?c_WAYS ?e_WAYS ?w_WAYS ?eg_BadCard ?ek_BadCard ?es_BadCard ?et_BadCard ?ei_BadCard ?eg_BadChange ?ek_BadChange ?es_BadChange ?et_BadChange ?ei_BadChange ?eg_BadCondition ?ek_BadCondition ?es_BadCondition ?et_BadCondition ?ei_BadCondition ?eg_BadHand ?ek_BadHand ?es_BadHand ?et_BadHand ?ei_BadHand ?eg_BadNumber ?ek_BadNumber ?es_BadNumber ?et_BadNumber ?ei_BadNumber ?eg_BadOrder ?ek_BadOrder ?es_BadOrder ?et_BadOrder ?ei_BadOrder ?eg_BadPlace ?ek_BadPlace ?es_BadPlace ?et_BadPlace ?ei_BadPlace ?eg_NothingLeft ?ek_NothingLeft ?es_NothingLeft ?et_NothingLeft ?ei_NothingLeft ?q_l ?q_t ?q_h ?q_n ?q_Missing ?q_StandError ?q_NothingLeft ?ea_BadCard ?en_BadCard ?ec_BadCard ?el_BadCard ?ed_BadCard ?ep_BadCard ?ef_BadCard ?e1_BadCard ?e2_BadCard ?ea_BadChange ?en_BadChange ?ec_BadChange ?el_BadChange ?ed_BadChange ?ep_BadChange ?ef_BadChange ?e1_BadChange ?e2_BadChange ?ea_BadCondition ?en_BadCondition ?ec_BadCondition ?el_BadCondition ?ed_BadCondition ?ep_BadCondition ?ef_BadCondition ?e1_BadCondition ?e2_BadCondition ?ea_BadHand ?en_BadHand ?ec_BadHand ?el_BadHand ?ed_BadHand ?ep_BadHand ?ef_BadHand ?e1_BadHand ?e2_BadHand ?ea_BadNumber ?en_BadNumber ?ec_BadNumber ?el_BadNumber ?ed_BadNumber ?ep_BadNumber ?ef_BadNumber ?e1_BadNumber ?e2_BadNumber ?ea_BadOrder ?en_BadOrder ?ec_BadOrder ?el_BadOrder ?ed_BadOrder ?ep_BadOrder ?ef_BadOrder ?e1_BadOrder ?e2_BadOrder ?ea_BadPlace ?en_BadPlace ?ec_BadPlace ?el_BadPlace ?ed_BadPlace ?ep_BadPlace ?ef_BadPlace ?e1_BadPlace ?e2_BadPlace ?ea_NothingLeft ?en_NothingLeft ?ec_NothingLeft ?el_NothingLeft ?ed_NothingLeft ?ep_NothingLeft ?ef_NothingLeft ?e1_NothingLeft ?e2_NothingLeft ?ja_Sheet ?jn_Sheet ?jt_Sheet ?jm_Sheet ?jc_Sheet ?ja_Table ?jn_Table ?jt_Table ?jm_Table ?jc_Table ?je_Table ?jx_Table Law.main own
    (case cg_Course => k_is)
    (case cp_Course => k_is)
    (case ch_Course => k_is)
    (case co_Course => k_is)
    (case cs_Course => k_is)
    (case cn_Course_begun => k_is)
    (case cn_Course_lasts => k_is)
    (case cn_Course_marks => k_is)
    (case cn_Course_moments => k_is)
    (case cn_Course_stand => k_is)
    (case cn_Course_told_steps => k_is)
    (case cm_Course => k_is)
    (case ck_Course => k_is)
    (case cg_Run => k_is)
    (case cp_Run => k_is)
    (case ch_Run => k_is)
    (case co_Run => k_is)
    (case cs_Run => k_is)
    (case cn_Run_acts => k_is)
    (case cn_Run_now => k_is)
    (case cn_Run_order => k_is)
    (case cn_Run_seen => k_is)
    (case cn_Run_stack => k_is)
    (case cn_Run_story => k_is)
    (case cg_Sheet => k_is)
    (case cp_Sheet => k_is)
    (case ch_Sheet => k_is)
    (case co_Sheet => k_is)
    (case cs_Sheet => k_is)
    (case cn_Sheet_stands => k_is)
    (case cn_Sheet_steps_done => k_is)
    (case cn_Sheet_waits_told => k_is)
    (case cm_Sheet => k_is)
    (case ck_Sheet => k_is)
    (case cg_Stand => k_is)
    (case cp_Stand => k_is)
    (case ch_Stand => k_is)
    (case co_Stand => k_is)
    (case cs_Stand => k_is)
    (case cn_Stand_came => k_is)
    (case cn_Stand_shown => k_is)
    (case cm_Stand => k_is)
    (case ck_Stand => k_is)
    (case cg_Table => k_is)
    (case cp_Table => k_is)
    (case ch_Table => k_is)
    (case co_Table => k_is)
    (case cs_Table => k_is)
    (case cn_Table_at_work => k_is)
    (case cn_Table_kept => k_is)
    (case cn_Table_later => k_is)
    (case cn_Table_now => k_is)
    (case cn_Table_past => k_is)
    (case cm_Table => k_is)
    (case ck_Table => k_is)
    (case aStand_m___init__ => k_is)
    (case iStand_m___init__ => k_is)
    (case lStand_m___init__ => k_is)
    (case cStand_m___init__ => k_is)
    (case kStand_m___init__ => k_is)
    (case afirst_look => k_is)
    (case lfirst_look => k_is)
    (case cfirst_look => k_is)
    (case kfirst_look => k_is)
    (case aturned => k_is)
    (case lturned => k_is)
    (case cturned => k_is)
    (case kturned => k_is)
    (case aplain_look => k_is)
    (case lplain_look => k_is)
    (case cplain_look => k_is)
    (case kplain_look => k_is)
    (case ais_number => k_is)
    (case lis_number => k_is)
    (case cis_number => k_is)
    (case kis_number => k_is)
    (case ais_word => k_is)
    (case lis_word => k_is)
    (case cis_word => k_is)
    (case kis_word => k_is)
    (case ais_list => k_is)
    (case lis_list => k_is)
    (case cis_list => k_is)
    (case kis_list => k_is)
    (case aform_of => k_is)
    (case lform_of => k_is)
    (case cform_of => k_is)
    (case kform_of => k_is)
    (case ais_term => k_is)
    (case lis_term => k_is)
    (case cis_term => k_is)
    (case kis_term => k_is)
    (case ais_part => k_is)
    (case lis_part => k_is)
    (case cis_part => k_is)
    (case kis_part => k_is)
    (case ais_condition => k_is)
    (case lis_condition => k_is)
    (case cis_condition => k_is)
    (case kis_condition => k_is)
    (case d0is_condition => k_is)
    (case ais_change => k_is)
    (case lis_change => k_is)
    (case cis_change => k_is)
    (case kis_change => k_is)
    (case d0is_change => k_is)
    (case ais_writ => k_is)
    (case lis_writ => k_is)
    (case cis_writ => k_is)
    (case kis_writ => k_is)
    (case d0is_writ => k_is)
    (case achanges_in => k_is)
    (case lchanges_in => k_is)
    (case cchanges_in => k_is)
    (case kchanges_in => k_is)
    (case awrits_now => k_is)
    (case lwrits_now => k_is)
    (case cwrits_now => k_is)
    (case kwrits_now => k_is)
    (case astanding => k_is)
    (case lstanding => k_is)
    (case cstanding => k_is)
    (case kstanding => k_is)
    (case aof_numbers => k_is)
    (case lof_numbers => k_is)
    (case cof_numbers => k_is)
    (case kof_numbers => k_is)
    (case amarked => k_is)
    (case lmarked => k_is)
    (case cmarked => k_is)
    (case kmarked => k_is)
    (case aCourse_m___init__ => k_is)
    (case iCourse_m___init__ => k_is)
    (case lCourse_m___init__ => k_is)
    (case cCourse_m___init__ => k_is)
    (case kCourse_m___init__ => k_is)
    (case aCourse_m_left_in => k_is)
    (case iCourse_m_left_in => k_is)
    (case lCourse_m_left_in => k_is)
    (case cCourse_m_left_in => k_is)
    (case kCourse_m_left_in => k_is)
    (case aCourse_m_waits_in => k_is)
    (case iCourse_m_waits_in => k_is)
    (case lCourse_m_waits_in => k_is)
    (case cCourse_m_waits_in => k_is)
    (case kCourse_m_waits_in => k_is)
    (case aCourse_m_count_marks => k_is)
    (case iCourse_m_count_marks => k_is)
    (case lCourse_m_count_marks => k_is)
    (case cCourse_m_count_marks => k_is)
    (case kCourse_m_count_marks => k_is)
    (case aCourse_m_go_on => k_is)
    (case iCourse_m_go_on => k_is)
    (case lCourse_m_go_on => k_is)
    (case cCourse_m_go_on => k_is)
    (case kCourse_m_go_on => k_is)
    (case abegun_course => k_is)
    (case lbegun_course => k_is)
    (case cbegun_course => k_is)
    (case kbegun_course => k_is)
    (case atold_looks => k_is)
    (case ltold_looks => k_is)
    (case ctold_looks => k_is)
    (case ktold_looks => k_is)
    (case aSheet_m___init__ => k_is)
    (case iSheet_m___init__ => k_is)
    (case lSheet_m___init__ => k_is)
    (case cSheet_m___init__ => k_is)
    (case kSheet_m___init__ => k_is)
    (case d0Sheet_m___init__ => k_is)
    (case z_kw0Sheet_m___init__ => k_is)
    (case aSheet_m_go_through => k_is)
    (case iSheet_m_go_through => k_is)
    (case lSheet_m_go_through => k_is)
    (case cSheet_m_go_through => k_is)
    (case kSheet_m_go_through => k_is)
    (case aSheet_m_looks => k_is)
    (case iSheet_m_looks => k_is)
    (case lSheet_m_looks => k_is)
    (case cSheet_m_looks => k_is)
    (case kSheet_m_looks => k_is)
    (case aSheet_m_steps => k_is)
    (case iSheet_m_steps => k_is)
    (case lSheet_m_steps => k_is)
    (case cSheet_m_steps => k_is)
    (case kSheet_m_steps => k_is)
    (case aon_board => k_is)
    (case lon_board => k_is)
    (case con_board => k_is)
    (case kon_board => k_is)
    (case asheet_of => k_is)
    (case lsheet_of => k_is)
    (case csheet_of => k_is)
    (case ksheet_of => k_is)
    (case aneed_thing => k_is)
    (case lneed_thing => k_is)
    (case cneed_thing => k_is)
    (case kneed_thing => k_is)
    (case athere => k_is)
    (case lthere => k_is)
    (case cthere => k_is)
    (case kthere => k_is)
    (case aTable_m___init__ => k_is)
    (case iTable_m___init__ => k_is)
    (case lTable_m___init__ => k_is)
    (case cTable_m___init__ => k_is)
    (case kTable_m___init__ => k_is)
    (case d0Table_m___init__ => k_is)
    (case aTable_m___eq__ => k_is)
    (case iTable_m___eq__ => k_is)
    (case lTable_m___eq__ => k_is)
    (case cTable_m___eq__ => k_is)
    (case kTable_m___eq__ => k_is)
    (case aTable_m___len__ => k_is)
    (case iTable_m___len__ => k_is)
    (case lTable_m___len__ => k_is)
    (case cTable_m___len__ => k_is)
    (case kTable_m___len__ => k_is)
    (case aTable_m___repr__ => k_is)
    (case iTable_m___repr__ => k_is)
    (case lTable_m___repr__ => k_is)
    (case cTable_m___repr__ => k_is)
    (case kTable_m___repr__ => k_is)
    (case aTable_m_stand_so => k_is)
    (case iTable_m_stand_so => k_is)
    (case lTable_m_stand_so => k_is)
    (case cTable_m_stand_so => k_is)
    (case kTable_m_stand_so => k_is)
    (case aTable_m_undo => k_is)
    (case iTable_m_undo => k_is)
    (case lTable_m_undo => k_is)
    (case cTable_m_undo => k_is)
    (case kTable_m_undo => k_is)
    (case aTable_m_redo => k_is)
    (case iTable_m_redo => k_is)
    (case lTable_m_redo => k_is)
    (case cTable_m_redo => k_is)
    (case kTable_m_redo => k_is)
    (case aTable_m_done => k_is)
    (case iTable_m_done => k_is)
    (case lTable_m_done => k_is)
    (case cTable_m_done => k_is)
    (case kTable_m_done => k_is)
    (case aTable_m_busy => k_is)
    (case iTable_m_busy => k_is)
    (case lTable_m_busy => k_is)
    (case cTable_m_busy => k_is)
    (case kTable_m_busy => k_is)
    (case aTable_m_sheet => k_is)
    (case iTable_m_sheet => k_is)
    (case lTable_m_sheet => k_is)
    (case cTable_m_sheet => k_is)
    (case kTable_m_sheet => k_is)
    (case aTable_m_thing => k_is)
    (case iTable_m_thing => k_is)
    (case lTable_m_thing => k_is)
    (case cTable_m_thing => k_is)
    (case kTable_m_thing => k_is)
    (case aTable_m_things => k_is)
    (case iTable_m_things => k_is)
    (case lTable_m_things => k_is)
    (case cTable_m_things => k_is)
    (case kTable_m_things => k_is)
    (case dtTable_m_things => k_is)
    (case aTable_m_lasting => k_is)
    (case iTable_m_lasting => k_is)
    (case lTable_m_lasting => k_is)
    (case cTable_m_lasting => k_is)
    (case kTable_m_lasting => k_is)
    (case aTable_m_hands => k_is)
    (case iTable_m_hands => k_is)
    (case lTable_m_hands => k_is)
    (case cTable_m_hands => k_is)
    (case kTable_m_hands => k_is)
    (case aTable_m_rounds => k_is)
    (case iTable_m_rounds => k_is)
    (case lTable_m_rounds => k_is)
    (case cTable_m_rounds => k_is)
    (case kTable_m_rounds => k_is)
    (case a_law_bag => k_is)
    (case l_law_bag => k_is)
    (case c_law_bag => k_is)
    (case k_law_bag => k_is)
    (case a_law_get => k_is)
    (case l_law_get => k_is)
    (case c_law_get => k_is)
    (case k_law_get => k_is)
    (case a_law_same => k_is)
    (case l_law_same => k_is)
    (case c_law_same => k_is)
    (case k_law_same => k_is)
    (case a_law_ask => k_is)
    (case l_law_ask => k_is)
    (case c_law_ask => k_is)
    (case k_law_ask => k_is)
    (case a_law_now => k_is)
    (case l_law_now => k_is)
    (case c_law_now => k_is)
    (case k_law_now => k_is)
    (case a_law_stands_so => k_is)
    (case l_law_stands_so => k_is)
    (case c_law_stands_so => k_is)
    (case k_law_stands_so => k_is)
    (case alaw => k_is)
    (case llaw => k_is)
    (case claw => k_is)
    (case klaw => k_is)
    (case b_all => k_is)
    (case b_any => k_is)
    (case b_bool => k_is)
    (case b_dict => k_is)
    (case b_enumerate => k_is)
    (case b_int => k_is)
    (case b_isinstance => k_is)
    (case b_len => k_is)
    (case b_list => k_is)
    (case b_range => k_is)
    (case b_repr => k_is)
    (case b_set => k_is)
    (case b_sorted => k_is)
    (case b_str => k_is)
    (case b_tuple => k_is)
    (case b_zip => k_is)
    (case c_CAME => k_is)
    (case c_LAYERS => k_is)
    (case c_LETTERS => k_is)
    (case c_LONGEST => k_is)
    (case c_MARKED => k_is)
    (case c_MOST_CHANGES => k_is)
    (case c_MOST_DEEP => k_is)
    (case c_MOST_HANDS => k_is)
    (case c_MOST_NUMBER => k_is)
    (case c_MOST_ON_BOARD => k_is)
    (case c_MOST_WORDS => k_is)
    (case c_MOST_WRITS => k_is)
    (case c_PLACES => k_is)
    (case z_PLACES => k_is)
    (case c_ACTS => k_is)
    (case e_ACTS => k_is)
    (case w_ACTS => rfl)
    (case c_CHANGES => k_is)
    (case e_CHANGES => k_is)
    (case w_CHANGES => rfl)
    (case c_CONDITIONS => k_is)
    (case e_CONDITIONS => k_is)
    (case w_CONDITIONS => rfl)
    (case c_LAYER_OF => k_is)
    (case e_LAYER_OF => k_is)
    (case w_LAYER_OF => rfl)
    (case c_LEAVES => k_is)
    (case e_LEAVES => k_is)
    (case w_LEAVES => rfl)
    (case c_LETS => k_is)
    (case e_LETS => k_is)
    (case w_LETS => rfl)
    (case z_LETS_0 => k_is)
    (case z_LETS_1 => k_is)
    (case z_LETS_2 => k_is)
    (case z_LETS_3 => k_is)
    (case c_SIZES => k_is)
    (case e_SIZES => k_is)
    (case w_SIZES => rfl)
    (case c_WAYS => k_is)
    (case e_WAYS => k_is)
    (case w_WAYS => rfl)
    (case eg_BadCard => k_is)
    (case ek_BadCard => k_is)
    (case es_BadCard => k_is)
    (case et_BadCard => k_is)
    (case ei_BadCard => k_exc)
    (case eg_BadChange => k_is)
    (case ek_BadChange => k_is)
    (case es_BadChange => k_is)
    (case et_BadChange => k_is)
    (case ei_BadChange => k_exc)
    (case eg_BadCondition => k_is)
    (case ek_BadCondition => k_is)
    (case es_BadCondition => k_is)
    (case et_BadCondition => k_is)
    (case ei_BadCondition => k_exc)
    (case eg_BadHand => k_is)
    (case ek_BadHand => k_is)
    (case es_BadHand => k_is)
    (case et_BadHand => k_is)
    (case ei_BadHand => k_exc)
    (case eg_BadNumber => k_is)
    (case ek_BadNumber => k_is)
    (case es_BadNumber => k_is)
    (case et_BadNumber => k_is)
    (case ei_BadNumber => k_exc)
    (case eg_BadOrder => k_is)
    (case ek_BadOrder => k_is)
    (case es_BadOrder => k_is)
    (case et_BadOrder => k_is)
    (case ei_BadOrder => k_exc)
    (case eg_BadPlace => k_is)
    (case ek_BadPlace => k_is)
    (case es_BadPlace => k_is)
    (case et_BadPlace => k_is)
    (case ei_BadPlace => k_exc)
    (case eg_NothingLeft => k_is)
    (case ek_NothingLeft => k_is)
    (case es_NothingLeft => k_is)
    (case et_NothingLeft => k_is)
    (case ei_NothingLeft => k_exc)
    (case q_l => k_is)
    (case q_t => rfl)
    (case q_h => first | kernel_rfl | decide +kernel | rfl)
    (case q_n => first | kernel_rfl | decide +kernel | rfl)
    (case q_Missing => k_is)
    (case q_StandError => k_is)
    (case q_NothingLeft => k_is)
    (case ea_BadCard => k_is)
    (case en_BadCard => k_is)
    (case ec_BadCard => k_is)
    (case el_BadCard => k_is)
    (case ed_BadCard => k_is)
    (case ep_BadCard => k_is)
    (case ef_BadCard => k_is)
    (case e1_BadCard => first | kernel_rfl | decide +kernel | rfl)
    (case e2_BadCard => first | kernel_rfl | decide +kernel | rfl)
    (case ea_BadChange => k_is)
    (case en_BadChange => k_is)
    (case ec_BadChange => k_is)
    (case el_BadChange => k_is)
    (case ed_BadChange => k_is)
    (case ep_BadChange => k_is)
    (case ef_BadChange => k_is)
    (case e1_BadChange => first | kernel_rfl | decide +kernel | rfl)
    (case e2_BadChange => first | kernel_rfl | decide +kernel | rfl)
    (case ea_BadCondition => k_is)
    (case en_BadCondition => k_is)
    (case ec_BadCondition => k_is)
    (case el_BadCondition => k_is)
    (case ed_BadCondition => k_is)
    (case ep_BadCondition => k_is)
    (case ef_BadCondition => k_is)
    (case e1_BadCondition => first | kernel_rfl | decide +kernel | rfl)
    (case e2_BadCondition => first | kernel_rfl | decide +kernel | rfl)
    (case ea_BadHand => k_is)
    (case en_BadHand => k_is)
    (case ec_BadHand => k_is)
    (case el_BadHand => k_is)
    (case ed_BadHand => k_is)
    (case ep_BadHand => k_is)
    (case ef_BadHand => k_is)
    (case e1_BadHand => first | kernel_rfl | decide +kernel | rfl)
    (case e2_BadHand => first | kernel_rfl | decide +kernel | rfl)
    (case ea_BadNumber => k_is)
    (case en_BadNumber => k_is)
    (case ec_BadNumber => k_is)
    (case el_BadNumber => k_is)
    (case ed_BadNumber => k_is)
    (case ep_BadNumber => k_is)
    (case ef_BadNumber => k_is)
    (case e1_BadNumber => first | kernel_rfl | decide +kernel | rfl)
    (case e2_BadNumber => first | kernel_rfl | decide +kernel | rfl)
    (case ea_BadOrder => k_is)
    (case en_BadOrder => k_is)
    (case ec_BadOrder => k_is)
    (case el_BadOrder => k_is)
    (case ed_BadOrder => k_is)
    (case ep_BadOrder => k_is)
    (case ef_BadOrder => k_is)
    (case e1_BadOrder => first | kernel_rfl | decide +kernel | rfl)
    (case e2_BadOrder => first | kernel_rfl | decide +kernel | rfl)
    (case ea_BadPlace => k_is)
    (case en_BadPlace => k_is)
    (case ec_BadPlace => k_is)
    (case el_BadPlace => k_is)
    (case ed_BadPlace => k_is)
    (case ep_BadPlace => k_is)
    (case ef_BadPlace => k_is)
    (case e1_BadPlace => first | kernel_rfl | decide +kernel | rfl)
    (case e2_BadPlace => first | kernel_rfl | decide +kernel | rfl)
    (case ea_NothingLeft => k_is)
    (case en_NothingLeft => k_is)
    (case ec_NothingLeft => k_is)
    (case el_NothingLeft => k_is)
    (case ed_NothingLeft => k_is)
    (case ep_NothingLeft => k_is)
    (case ef_NothingLeft => k_is)
    (case e1_NothingLeft => first | kernel_rfl | decide +kernel | rfl)
    (case e2_NothingLeft => first | kernel_rfl | decide +kernel | rfl)
    (case ja_Sheet => k_is)
    (case jn_Sheet => k_is)
    (case jt_Sheet => k_is)
    (case jm_Sheet => k_is)
    (case jc_Sheet => first | kernel_rfl | decide +kernel | rfl)
    (case ja_Table => k_is)
    (case jn_Table => k_is)
    (case jt_Table => k_is)
    (case jm_Table => k_is)
    (case jc_Table => first | kernel_rfl | decide +kernel | rfl)
    (case je_Table => k_is)
    (case jx_Table => first | kernel_rfl | decide +kernel | rfl)
